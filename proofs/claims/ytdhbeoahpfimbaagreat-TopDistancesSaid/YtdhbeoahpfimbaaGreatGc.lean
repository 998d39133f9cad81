/- Part of the proof of TopDistances. -/
import Derived.Test.YtdhbeoahpfimbaaGreatGb
import Derived.LoopN
namespace Go.Proofs.YtdhbeoahpfimbaaGreat
open Go.RowKit
theorem iZ {a b:Int} (h0:0<=a) (h:a<=b):a*a<=b*b:=Int.mul_le_mul h h h0 (by omega)
theorem xV {a b:Int} (hb:0<=b) (h:a*a<b*b):a<b:=by
 rcases Int.lt_or_le a b with g|g
 ·exact g
 ·exact absurd (iZ hb g) (by omega)
theorem QE (n:Nat):∃r:Nat,r*r<=n/\n<(r+1)*(r+1):=by
 induction n with
 |zero=>exact ⟨0,by omega,by omega⟩
 |succ n ih=>
  obtain ⟨r,h1,h2⟩:=ih
  by_cases h:(r+1)*(r+1)<=n+1
  ·refine ⟨r+1,h,?_⟩
   have:(r+1+1)*(r+1+1)=(r+1)*(r+1)+2*(r+1)+1:=by grind
   omega
  ·exact ⟨r,by omega,by omega⟩
theorem lO (n:Int) (h:0<=n):∃r:Int,0<=r/\r*r<=n/\n<(r+1)*(r+1):=by
 obtain ⟨r,h1,h2⟩:=QE n.toNat
 refine ⟨r,by omega,?_,?_⟩
 ·have:((r*r:Nat):Int)<=(n.toNat:Int):=by exact_mod_cast h1
  rw [Int.toNat_of_nonneg h] at this;simpa using this
 ·have:((n.toNat:Nat):Int)<(((r+1)*(r+1):Nat):Int):=by exact_mod_cast h2
  rw [Int.toNat_of_nonneg h] at this;simpa using this
theorem LD {n r k:Int} (r0:0<=r) (r1:r*r<=n) (r2:n<(r+1)*(r+1)) (k0:0<=k) (k1:k*k<=n) (k2:n<(k+1)*(k+1)):k=r:=by
 have a:=xV (show 0<=k+1 by omega) (show r*r<(k+1)*(k+1) by omega)
 have b:=xV (show 0<=r+1 by omega) (show k*k<(r+1)*(r+1) by omega)
 omega
theorem xP {n k:Int} (h:k*k<=n) (h1:n<=2305843009213693952):k<=1518500249:=by
 have:=xV (a:=k) (b:=1518500250) (by omega) (by omega)
 omega
def oA (n k b:Int):Prop:=∃j:Nat,j<=32/\b=2^j/2/\0<=k/\k*k<=n/\n<(k+2^j)*(k+2^j)/\(j=32->k=0)
theorem oJ (n:Int) (h0:0<=n) (h1:n<=2305843009213693952):oA n 0 2147483648:=
 ⟨32,by omega,by decide,by omega,by omega,by omega,fun _=>rfl⟩
theorem mR (j:Nat):(0:Int)<2^j:=by exact_mod_cast Nat.two_pow_pos j
theorem VS {j k:Nat} (h:j<=k):(2:Int)^j<=2^k:=by exact_mod_cast Nat.pow_le_pow_right (by omega) h
theorem rC {n k b:Int} (h1:n<=2305843009213693952) (h:oA n k b):0<=k/\k<=1518500249/\0<=b/\b<=2147483648/\k+b<=2592242073:=by
 obtain ⟨j,hj,rfl,k0,k1,k2,k3⟩:=h
 have kb:=xP k1 h1
 have p:=mR j
 by_cases e:j=32
 ·have:=k3 e
  subst e;omega
 ·have q:=VS (show j<=31 by omega)
  omega
theorem tA {n k b r:Int} (h:oA n k b) (hb:¬0<b) (r0:0<=r) (r1:r*r<=n) (r2:n<(r+1)*(r+1)):k=r:=by
 obtain ⟨j,hj,rfl,k0,k1,k2,k3⟩:=h
 have e:j=0:=by
  cases j with
  |zero=>rfl
  |succ j=>have:=mR j;rw [Int.pow_succ] at hb;omega
 subst e
 exact LD r0 r1 r2 k0 k1 (by simpa using k2)
theorem pK {n k b:Int} (h:oA n k b) (hb:0<b):((k+b)*(k+b)<=n->oA n (k+b) (b/2))/\(¬(k+b)*(k+b)<=n->oA n k (b/2)):=by
 obtain ⟨j,hj,rfl,k0,k1,k2,k3⟩:=h
 cases j with
 |zero=>simp at hb
 |succ j=>
  have p:=mR j
  have e:(2:Int)^(j+1)/2=2^j:=by rw [Int.pow_succ];omega
  rw [e] at hb ⊢
  have e2:(2:Int)^(j+1)=2^j+2^j:=by rw [Int.pow_succ];omega
  rw [e2] at k2
  refine ⟨fun h=>⟨j,by omega,rfl,by omega,h,?_,by omega⟩,fun h=>⟨j,by omega,rfl,k0,k1,by omega,by omega⟩⟩
  rw [Int.add_assoc];exact k2
set_option maxHeartbeats 400000 in
theorem kJ (n r:Int) (w:World) (h0:0<=n) (h1:n<=2305843009213693952) (r0:0<=r) (r1:r*r<=n) (r2:n<(r+1)*(r+1)):
  Calls Tryz.prog 136 #[.int .i64 n] w fun e w'=>e= .returned (.int .i64 r)/\w=w':=by
 have R:=b6 (And.intro r0 (And.intro r1 r2))
 clear r0 r1 r2
 go_enter Tryz.func136,Tryz.ntmps136
 go_wp2
 go_loop [3,4] (fun K B=>∃k b:Int,oA n k b/\K= .int .i64 k/\B= .int .i64 b) (fun _ B=>(intOf B).toNat)
 case atStart=>exact ⟨0,2147483648,oJ n h0 h1,rfl,rfl⟩
 case round=>
  obtain ⟨k,b,hI,rfl,rfl⟩:=hrel
  obtain ⟨b1,b2,b3,b4,b5⟩:=rC h1 hI
  by_cases hb:0<b
  ·have N:=pK hI hb
   have wq:0<=(k+b)*(k+b)/\(k+b)*(k+b)<=9223372036854775807:=by
    have:=iZ (show 0<=k+b by omega) (show k+b<=2592242073 by omega)
    have:=Int.mul_nonneg (show 0<=k+b by omega) (show 0<=k+b by omega)
    omega
   have wr:IntKind.i64.wrap ((k+b)*(k+b))=(k+b)*(k+b):=Y3 (by omega) (by omega)
   clear wq
   replace N:=b6 N
   replace hI:=b6 hI
   by_cases hs:(k+b)*(k+b)<=n
   ·go_wp2
    go_round
    case rel=>exact ⟨k+b,b/2,N.out.1 hs,rfl,by first|rfl|go_num⟩
    case measure=>simp [intOf];omega
   ·go_wp2
    go_round
    case rel=>exact ⟨k,b/2,N.out.2 hs,rfl,by first|rfl|go_num⟩
    case measure=>simp [intOf];omega
  ·replace hI:=b6 hI
   go_wp2
   go_ret
   exact ⟨N3 (tA hI.out (by omega) R.out.1 R.out.2.1 R.out.2.2),rfl⟩
theorem sY (n:Int):fl n 1073741824=n/1073741824:=by unfold fl;rw [if_pos (by omega)]
theorem yY (n:Int):ce n 1073741824= -(-n/1073741824):=by unfold ce;rw [sY]
def T9 (m s:Int):Int:=if s*s<m then s+1 else s
def W9 (n r:Int):Prop:=0<=r/\r*r<=n/\n<(r+1)*(r+1)
theorem dY {n r:Int} (hn:n<=2305843009213693952) (h:W9 n r):0<=r/\r<=1518500249:=⟨h.1,xP h.2.1 hn⟩
theorem tS {n m r s:Int} (h:n<=m) (hr:W9 n r) (hs:W9 m s):r<=s:=by
 have:=xV (a:=r) (b:=s+1) (by have:=hs.1;omega) (by have:=hr.2.1;have:=hs.2.2;omega)
 omega
set_option maxHeartbeats 400000 in
theorem XR (a b r s:Int) (w:World) (h:x8 a b=true) (hb:0<=b) (hr:W9 (max 0 a*1073741824) r) (hs:W9 (b*1073741824) s) (hl:s*s<b*1073741824):
  Calls Tryz.prog 50 #[.agg #[.int .i64 a,.int .i64 b]] w fun e w'=>e= .returned (.tuple #[.agg #[.int .i64 r,.int .i64 (s+1)],.int .i64 0])/\Below w.heap.size w w':=by
 obtain ⟨a1,a2,a3⟩:=K6 h
 have r1:=dY (by omega) hr
 have s1:=dY (by omega) hs
 have rs:=tS (by omega) hr hs
 obtain ⟨r2,r3⟩:=r1
 obtain ⟨s2,s3⟩:=s1
 have FA:=fun w=>kJ (max 0 a*1073741824) r w (by omega) (by omega) hr.1 hr.2.1 hr.2.2
 have FB:=fun w=>kJ (b*1073741824) s w (by omega) (by omega) hs.1 hs.2.1 hs.2.2
 have FI:=fun w=>iX r (s+1) w (J3 (by omega))
 have sq:0<=s*s/\s*s<=2305843009213693952:=⟨Int.mul_nonneg s2 s2,by omega⟩
 have w1:IntKind.i64.wrap (s*s)=s*s:=Y3 (by omega) (by omega)
 replace FA:=b6 FA
 replace FB:=b6 FB
 replace FI:=b6 FI
 clear hr hs sq
 go_enter Tryz.func50,Tryz.ntmps50
 go_wp2_with (first|(go_at_call 129;refine am (D7 _ _ _) ?_;intro w' hb;replace hb:=mU;obtain ⟨hcell,hfroz,hz,_⟩:=mB)|(go_at_call 136;((with_reducible refine am (FB.out _) ?_);rintro w' rfl))|(go_at_call 136;((with_reducible refine am (FA.out _) ?_);rintro w' rfl))|(go_at_call 132;refine am (FI.out _) ?_;intro w' hb;replace hb:=mU;obtain ⟨hcell,hfroz,hz,_⟩:=mB))
 exact bodyPost_ret (v:= .tuple #[.agg #[.int .i64 r,.int .i64 (s+1)],.int .i64 0]) (by first|(simp only [results,Tryz.results50];go_simp;done)|simp [results,Tryz.results50,go_sem, *]) rfl ⟨rfl,bv⟩
set_option maxHeartbeats 400000 in
theorem YS (a b r s:Int) (w:World) (h:x8 a b=true) (hb:0<=b) (hr:W9 (max 0 a*1073741824) r) (hs:W9 (b*1073741824) s) (hl:¬s*s<b*1073741824):
  Calls Tryz.prog 50 #[.agg #[.int .i64 a,.int .i64 b]] w fun e w'=>e= .returned (.tuple #[.agg #[.int .i64 r,.int .i64 s],.int .i64 0])/\Below w.heap.size w w':=by
 obtain ⟨a1,a2,a3⟩:=K6 h
 have r1:=dY (by omega) hr
 have s1:=dY (by omega) hs
 have rs:=tS (by omega) hr hs
 obtain ⟨r2,r3⟩:=r1
 obtain ⟨s2,s3⟩:=s1
 have FA:=fun w=>kJ (max 0 a*1073741824) r w (by omega) (by omega) hr.1 hr.2.1 hr.2.2
 have FB:=fun w=>kJ (b*1073741824) s w (by omega) (by omega) hs.1 hs.2.1 hs.2.2
 have FI:=fun w=>iX r s w (J3 (by omega))
 have sq:0<=s*s/\s*s<=2305843009213693952:=⟨Int.mul_nonneg s2 s2,by have:=hs.2.1;omega⟩
 have w1:IntKind.i64.wrap (s*s)=s*s:=Y3 (by omega) (by omega)
 replace FA:=b6 FA
 replace FB:=b6 FB
 replace FI:=b6 FI
 clear hr hs sq
 go_enter Tryz.func50,Tryz.ntmps50
 go_wp2_with (first|(go_at_call 129;refine am (D7 _ _ _) ?_;intro w' hb;replace hb:=mU;obtain ⟨hcell,hfroz,hz,_⟩:=mB)|(go_at_call 136;((with_reducible refine am (FB.out _) ?_);rintro w' rfl))|(go_at_call 136;((with_reducible refine am (FA.out _) ?_);rintro w' rfl))|(go_at_call 132;refine am (FI.out _) ?_;intro w' hb;replace hb:=mU;obtain ⟨hcell,hfroz,hz,_⟩:=mB))
 exact bodyPost_ret (v:= .tuple #[.agg #[.int .i64 r,.int .i64 s],.int .i64 0]) (by first|(simp only [results,Tryz.results50];go_simp;done)|simp [results,Tryz.results50,go_sem, *]) rfl ⟨rfl,bv⟩
theorem PQ (a b r s:Int) (w:World) (h:x8 a b=true) (hb:0<=b) (hr:W9 (max 0 a*1073741824) r) (hs:W9 (b*1073741824) s):
  Calls Tryz.prog 50 #[.agg #[.int .i64 a,.int .i64 b]] w fun e w'=>e= .returned (.tuple #[.agg #[.int .i64 r,.int .i64 (T9 (b*1073741824) s)],.int .i64 0])/\Below w.heap.size w w':=by
 by_cases hl:s*s<b*1073741824
 ·have e:T9 (b*1073741824) s=s+1:=if_pos hl
  rw [e];exact XR a b r s w h hb hr hs hl
 ·have e:T9 (b*1073741824) s=s:=if_neg hl
  rw [e];exact YS a b r s w h hb hr hs hl
def qD (a b c d:Int):Int:=min (fl (a*1073741824) c) (min (fl (a*1073741824) d) (min (fl (b*1073741824) c) (fl (b*1073741824) d)))
def qS (a b c d:Int):Int:=max (ce (a*1073741824) c) (max (ce (a*1073741824) d) (max (ce (b*1073741824) c) (ce (b*1073741824) d)))
theorem fK (x y X Y p q k:Int) (w:World) (hx:x=X) (hy:y=Y) (hv:kN X Y= .tuple #[.agg #[.int .i64 p,.int .i64 q],.int .i64 k]):
  Calls Tryz.prog 132 #[.int .i64 x,.int .i64 y] w fun e w'=>e= .returned (.tuple #[.agg #[.int .i64 p,.int .i64 q],.int .i64 k])/\Below w.heap.size w w':=by
 subst hx hy
 rw [<-hv];exact AV _ _ w
set_option maxHeartbeats 4000000 in
theorem XI (a b c d x11 x12 x21 x22 y11 y12 y21 y22 p q k:Int) (w:World) (h1:x8 a b=true) (h2:x8 c d=true) (hz:P6 c d=false)
  (e11:fl (a*1073741824) c=x11) (e12:fl (a*1073741824) d=x12) (e21:fl (b*1073741824) c=x21) (e22:fl (b*1073741824) d=x22)
  (g11:ce (a*1073741824) c=y11) (g12:ce (a*1073741824) d=y12) (g21:ce (b*1073741824) c=y21) (g22:ce (b*1073741824) d=y22)
  (hv:kN (min x11 (min x12 (min x21 x22))) (max y11 (max y12 (max y21 y22)))= .tuple #[.agg #[.int .i64 p,.int .i64 q],.int .i64 k]):
  Calls Tryz.prog 233 #[.agg #[.int .i64 a,.int .i64 b],.agg #[.int .i64 c,.int .i64 d]] w fun e w'=>e= .returned (.tuple #[.agg #[.int .i64 p,.int .i64 q],.int .i64 k])/\Below w.heap.size w w':=by
 obtain ⟨a1,a2,a3⟩:=K6 h1
 obtain ⟨c1,c2,c3⟩:=K6 h2
 have z:=IR hz
 have h:(x8 a b&&x8 c d)=true:=by rw [h1,h2];rfl
 clear h1 h2
 have A11:=fun w=>U5 (a*1073741824) c w (by omega) (by omega) (by omega) (by omega) (by omega)
 have A12:=fun w=>U5 (a*1073741824) d w (by omega) (by omega) (by omega) (by omega) (by omega)
 have A21:=fun w=>U5 (b*1073741824) c w (by omega) (by omega) (by omega) (by omega) (by omega)
 have A22:=fun w=>U5 (b*1073741824) d w (by omega) (by omega) (by omega) (by omega) (by omega)
 have B11:=fun w=>aW (a*1073741824) c w (by omega) (by omega) (by omega) (by omega) (by omega)
 have B12:=fun w=>aW (a*1073741824) d w (by omega) (by omega) (by omega) (by omega) (by omega)
 have B21:=fun w=>aW (b*1073741824) c w (by omega) (by omega) (by omega) (by omega) (by omega)
 have B22:=fun w=>aW (b*1073741824) d w (by omega) (by omega) (by omega) (by omega) (by omega)
 rw [e11] at A11
 rw [e12] at A12
 rw [e21] at A21
 rw [e22] at A22
 rw [g11] at B11
 rw [g12] at B12
 rw [g21] at B21
 rw [g22] at B22
 clear e11 e12 e21 e22 g11 g12 g21 g22 z
 replace A11:=b6 A11
 replace A12:=b6 A12
 replace A21:=b6 A21
 replace A22:=b6 A22
 replace B11:=b6 B11
 replace B12:=b6 B12
 replace B21:=b6 B21
 replace B22:=b6 B22
 replace hv:=b6 hv
 go_enter Tryz.func233,Tryz.ntmps233
 go_wp2_with (first|(go_at_call 135;refine am (H9 _ _ _ _ _) ?_;intro w' hb;replace hb:=mU;obtain ⟨hcell,hfroz,hz,_⟩:=mB)|(go_at_call 254;refine am (U8 _ _ _) ?_;intro w' hb;replace hb:=mU;obtain ⟨hcell,hfroz,hz,_⟩:=mB))
 go_quiet (first|(go_at_call 133;((with_reducible refine u6 (A11.out _))))|(go_at_call 134;((with_reducible refine u6 (B11.out _)))))
 obtain ⟨w1,rfl⟩:=nm w'
 (refine o7 (F:=Exit.then _ _ _ _) ?_;intro w' hb;replace hb:=mU;obtain ⟨hcell,hfroz,hz,_⟩:=mB)
 obtain ⟨w2,rfl⟩:=nm w'
 go_wp2
 refine wp_loop_rounds 3 ?_
 rw [rounds_succ]
 go_wp2
 refine wp_loop_rounds 3 ?_
 rw [rounds_succ]
 go_wp2_with (first|(go_at_call 133;((with_reducible refine am (A11.out _) ?_);rintro w' rfl))|(go_at_call 133;((with_reducible refine am (A12.out _) ?_);rintro w' rfl))|(go_at_call 133;((with_reducible refine am (A21.out _) ?_);rintro w' rfl))|(go_at_call 133;((with_reducible refine am (A22.out _) ?_);rintro w' rfl))|(go_at_call 134;((with_reducible refine am (B11.out _) ?_);rintro w' rfl))|(go_at_call 134;((with_reducible refine am (B12.out _) ?_);rintro w' rfl))|(go_at_call 134;((with_reducible refine am (B21.out _) ?_);rintro w' rfl))|(go_at_call 134;((with_reducible refine am (B22.out _) ?_);rintro w' rfl))|(go_at_call 132;refine am (fK _ _ _ _ p q k _ (by omega) (by omega) hv.out) ?_;intro w' hb;replace hb:Below w2.heap.size w2 w':=o5 hb bv;replace hb:=mU;obtain ⟨hcell,hfroz,hz,_⟩:=mB))
 rw [rounds_succ]
 go_wp2_with (first|(go_at_call 133;((with_reducible refine am (A11.out _) ?_);rintro w' rfl))|(go_at_call 133;((with_reducible refine am (A12.out _) ?_);rintro w' rfl))|(go_at_call 133;((with_reducible refine am (A21.out _) ?_);rintro w' rfl))|(go_at_call 133;((with_reducible refine am (A22.out _) ?_);rintro w' rfl))|(go_at_call 134;((with_reducible refine am (B11.out _) ?_);rintro w' rfl))|(go_at_call 134;((with_reducible refine am (B12.out _) ?_);rintro w' rfl))|(go_at_call 134;((with_reducible refine am (B21.out _) ?_);rintro w' rfl))|(go_at_call 134;((with_reducible refine am (B22.out _) ?_);rintro w' rfl))|(go_at_call 132;refine am (fK _ _ _ _ p q k _ (by omega) (by omega) hv.out) ?_;intro w' hb;replace hb:Below w2.heap.size w2 w':=o5 hb bv;replace hb:=mU;obtain ⟨hcell,hfroz,hz,_⟩:=mB))
 rw [rounds_succ]
 go_wp2_with (first|(go_at_call 133;((with_reducible refine am (A11.out _) ?_);rintro w' rfl))|(go_at_call 133;((with_reducible refine am (A12.out _) ?_);rintro w' rfl))|(go_at_call 133;((with_reducible refine am (A21.out _) ?_);rintro w' rfl))|(go_at_call 133;((with_reducible refine am (A22.out _) ?_);rintro w' rfl))|(go_at_call 134;((with_reducible refine am (B11.out _) ?_);rintro w' rfl))|(go_at_call 134;((with_reducible refine am (B12.out _) ?_);rintro w' rfl))|(go_at_call 134;((with_reducible refine am (B21.out _) ?_);rintro w' rfl))|(go_at_call 134;((with_reducible refine am (B22.out _) ?_);rintro w' rfl))|(go_at_call 132;refine am (fK _ _ _ _ p q k _ (by omega) (by omega) hv.out) ?_;intro w' hb;replace hb:Below w2.heap.size w2 w':=o5 hb bv;replace hb:=mU;obtain ⟨hcell,hfroz,hz,_⟩:=mB))
 rw [rounds_succ]
 go_wp2
 refine wp_loop_rounds 3 ?_
 rw [rounds_succ]
 go_wp2_with (first|(go_at_call 133;((with_reducible refine am (A11.out _) ?_);rintro w' rfl))|(go_at_call 133;((with_reducible refine am (A12.out _) ?_);rintro w' rfl))|(go_at_call 133;((with_reducible refine am (A21.out _) ?_);rintro w' rfl))|(go_at_call 133;((with_reducible refine am (A22.out _) ?_);rintro w' rfl))|(go_at_call 134;((with_reducible refine am (B11.out _) ?_);rintro w' rfl))|(go_at_call 134;((with_reducible refine am (B12.out _) ?_);rintro w' rfl))|(go_at_call 134;((with_reducible refine am (B21.out _) ?_);rintro w' rfl))|(go_at_call 134;((with_reducible refine am (B22.out _) ?_);rintro w' rfl))|(go_at_call 132;refine am (fK _ _ _ _ p q k _ (by omega) (by omega) hv.out) ?_;intro w' hb;replace hb:Below w2.heap.size w2 w':=o5 hb bv;replace hb:=mU;obtain ⟨hcell,hfroz,hz,_⟩:=mB))
 rw [rounds_succ]
 go_wp2_with (first|(go_at_call 133;((with_reducible refine am (A11.out _) ?_);rintro w' rfl))|(go_at_call 133;((with_reducible refine am (A12.out _) ?_);rintro w' rfl))|(go_at_call 133;((with_reducible refine am (A21.out _) ?_);rintro w' rfl))|(go_at_call 133;((with_reducible refine am (A22.out _) ?_);rintro w' rfl))|(go_at_call 134;((with_reducible refine am (B11.out _) ?_);rintro w' rfl))|(go_at_call 134;((with_reducible refine am (B12.out _) ?_);rintro w' rfl))|(go_at_call 134;((with_reducible refine am (B21.out _) ?_);rintro w' rfl))|(go_at_call 134;((with_reducible refine am (B22.out _) ?_);rintro w' rfl))|(go_at_call 132;refine am (fK _ _ _ _ p q k _ (by omega) (by omega) hv.out) ?_;intro w' hb;replace hb:Below w2.heap.size w2 w':=o5 hb bv;replace hb:=mU;obtain ⟨hcell,hfroz,hz,_⟩:=mB))
 rw [rounds_succ]
 go_wp2_with (first|(go_at_call 133;((with_reducible refine am (A11.out _) ?_);rintro w' rfl))|(go_at_call 133;((with_reducible refine am (A12.out _) ?_);rintro w' rfl))|(go_at_call 133;((with_reducible refine am (A21.out _) ?_);rintro w' rfl))|(go_at_call 133;((with_reducible refine am (A22.out _) ?_);rintro w' rfl))|(go_at_call 134;((with_reducible refine am (B11.out _) ?_);rintro w' rfl))|(go_at_call 134;((with_reducible refine am (B12.out _) ?_);rintro w' rfl))|(go_at_call 134;((with_reducible refine am (B21.out _) ?_);rintro w' rfl))|(go_at_call 134;((with_reducible refine am (B22.out _) ?_);rintro w' rfl))|(go_at_call 132;refine am (fK _ _ _ _ p q k _ (by omega) (by omega) hv.out) ?_;intro w' hb;replace hb:Below w2.heap.size w2 w':=o5 hb bv;replace hb:=mU;obtain ⟨hcell,hfroz,hz,_⟩:=mB))
 rw [rounds_succ]
 go_wp2_with (first|(go_at_call 133;((with_reducible refine am (A11.out _) ?_);rintro w' rfl))|(go_at_call 133;((with_reducible refine am (A12.out _) ?_);rintro w' rfl))|(go_at_call 133;((with_reducible refine am (A21.out _) ?_);rintro w' rfl))|(go_at_call 133;((with_reducible refine am (A22.out _) ?_);rintro w' rfl))|(go_at_call 134;((with_reducible refine am (B11.out _) ?_);rintro w' rfl))|(go_at_call 134;((with_reducible refine am (B12.out _) ?_);rintro w' rfl))|(go_at_call 134;((with_reducible refine am (B21.out _) ?_);rintro w' rfl))|(go_at_call 134;((with_reducible refine am (B22.out _) ?_);rintro w' rfl))|(go_at_call 132;refine am (fK _ _ _ _ p q k _ (by omega) (by omega) hv.out) ?_;intro w' hb;replace hb:Below w2.heap.size w2 w':=o5 hb bv;replace hb:=mU;obtain ⟨hcell,hfroz,hz,_⟩:=mB))
 exact bodyPost_ret (v:= .tuple #[.agg #[.int .i64 p,.int .i64 q],.int .i64 k]) (by first|(simp only [results,Tryz.results233];go_simp;done)|simp [results,Tryz.results233,go_sem, *]) rfl ⟨rfl,bv⟩
theorem ZL (a b c d:Int) (w:World) (h1:x8 a b=true) (h2:x8 c d=true) (hz:P6 c d=false):
  Calls Tryz.prog 233 #[.agg #[.int .i64 a,.int .i64 b],.agg #[.int .i64 c,.int .i64 d]] w fun e w'=>e= .returned (kN (qD a b c d) (qS a b c d))/\Below w.heap.size w w':=by
 obtain ⟨p,q,k,e⟩:=tF (qD a b c d) (qS a b c d)
 rw [e]
 exact XI a b c d _ _ _ _ _ _ _ _ p q k w h1 h2 hz rfl rfl rfl rfl rfl rfl rfl rfl e
theorem oV {n d:Int} (h:0<d):fl n d=n/d:=by unfold fl;rw [if_pos h]
def F5 (n:Int):Bool:=decide (-1099511627776<=n)&&decide (n<=1099511627776)
theorem zV {n:Int} (h:F5 n=true): -1099511627776<=n/\n<=1099511627776:=by simp [F5] at h;omega
theorem nR {n:Int} (h: -1099511627776<=n/\n<=1099511627776):F5 n=true:=by simp [F5];omega
theorem fB {n:Int} (h:¬(-1099511627776<=n/\n<=1099511627776)):F5 n=false:=by simp [F5];omega
theorem v8 (n:Int) (w:World):
  Calls Tryz.prog 137 #[.int .i64 n] w fun e w'=>e= .returned (.bool (F5 n))/\w=w':=by
 by_cases h1: -1099511627776<=n
 ·by_cases h2:n<=1099511627776
  ·have H:=b6 (nR ⟨h1,h2⟩)
   go_enter Tryz.func137,Tryz.ntmps137
   go_wp2
   go_ret
   exact ⟨by rw [H.out];rfl,rfl⟩
  ·have H:=b6 (fB (n:=n) (by omega))
   go_enter Tryz.func137,Tryz.ntmps137
   go_wp2
   go_ret
   exact ⟨by rw [H.out];rfl,rfl⟩
 ·have H:=b6 (fB (n:=n) (by omega))
  go_enter Tryz.func137,Tryz.ntmps137
  go_wp2
  go_ret
  exact ⟨by rw [H.out];rfl,rfl⟩
theorem VN {x y X Y:Int} (hx: -X<=x/\x<=X) (hy: -Y<=y/\y<=Y): -(X*Y)<=x*y/\x*y<=X*Y:=by
 have e:=Int.natAbs_mul x y
 have h:x.natAbs*y.natAbs<=X.toNat*Y.toNat:=Nat.mul_le_mul (by omega) (by omega)
 rw [<-e] at h
 have h2:((x*y).natAbs:Int)<=((X.toNat*Y.toNat:Nat):Int):=by exact_mod_cast h
 rw [Int.natCast_mul,Int.toNat_of_nonneg (by omega),Int.toNat_of_nonneg (by omega)] at h2
 omega
def LB (a b c d n:Int):Int:=min (a*n/c) (min (a*n/d) (min (b*n/c) (b*n/d)))
def MX (a b c d n:Int):Int:=max (-(-(a*n)/c)) (max (-(-(a*n)/d)) (max (-(-(b*n)/c)) (-(-(b*n)/d))))
def WB (L H:Int):Value:=if (F5 L&&F5 H)=true then .tuple #[.int .i64 L,.int .i64 H,.int .i64 0] else .tuple #[.int .i64 0,.int .i64 0,.int .i64 5]
theorem a0f {L H:Int} (h1:F5 L=true) (h2:F5 H=true):WB L H= .tuple #[.int .i64 L,.int .i64 H,.int .i64 0]:=by unfold WB;rw [h1,h2];rfl
theorem jA {L H:Int} (h:(F5 L&&F5 H)=false):WB L H= .tuple #[.int .i64 0,.int .i64 0,.int .i64 5]:=by unfold WB;rw [h];rfl
def qLo (a b c d n:Int):Int:=min (fl (a*n) c) (min (fl (a*n) d) (min (fl (b*n) c) (fl (b*n) d)))
def qHi (a b c d n:Int):Int:=max (ce (a*n) c) (max (ce (a*n) d) (max (ce (b*n) c) (ce (b*n) d)))
end Go.Proofs.YtdhbeoahpfimbaaGreat
