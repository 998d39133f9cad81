/- Part of the proof of TopDistances. -/
import Derived.Test.YtdhbeoahpfimbaaGreatGc
import Derived.Test.YtdhbeoahpfimbaaGreatAg
import Derived.Test.YtdhbeoahpfimbaaGreatTg
import Derived.Test.YtdhbeoahpfimbaaGreatRa
namespace Go.Proofs.YtdhbeoahpfimbaaGreat
open Go.RowKit
theorem Q9 (n:Int) (w:World):
  Calls Tryz.prog 83 #[.int .i64 n] w fun e w'=>e= .returned (.agg #[.int .i64 n,.int .i64 n])/\Below w.heap.size w w':=by
 go_enter Tryz.func83,Tryz.ntmps83
 go_wp2
 exact bodyPost_ret (v:= .agg #[.int .i64 n,.int .i64 n]) (by first|(simp only [results,Tryz.results83];go_simp;done)|simp [results,Tryz.results83,go_sem, *]) rfl ⟨rfl,bw⟩
theorem gE (a b:Int) (w:World) (h0: -5340000<=a) (h1:b<=5340000):
  Calls Tryz.prog 82 #[.agg #[.int .i64 a,.int .i64 b]] w fun e w'=>e= .returned (.bool true)/\Below w.heap.size w w':=by
 go_enter Tryz.func82,Tryz.ntmps82
 go_wp2
 go_ret
 exact ⟨rfl,bw⟩
theorem tJ (a b:Int) (w:World) (h1: -5400000<=a) (h2:a<=5400000) (h3: -10800000<=b) (h4:b<10800000):
  Calls Tryz.prog 81 #[.agg #[.int .i64 a,.int .i64 b]] w fun e w'=>e= .returned (.bool true)/\Below w.heap.size w w':=by
 go_enter Tryz.func81,Tryz.ntmps81
 go_wp2
 go_ret
 exact ⟨rfl,bw⟩
theorem iL (a b c d x y:Int) (w:World) (hx:IntKind.i64.wrap (a-d)=x) (hy:IntKind.i64.wrap (b-c)=y):
  Calls Tryz.prog 156 #[.agg #[.int .i64 a,.int .i64 b],.agg #[.int .i64 c,.int .i64 d]] w fun e w'=>e= .returned (.agg #[.int .i64 x,.int .i64 y])/\Below w.heap.size w w':=by
 go_enter Tryz.func156,Tryz.ntmps156
 go_wp2
 exact bodyPost_ret (v:= .agg #[.int .i64 x,.int .i64 y]) (by first|(simp only [results,Tryz.results156];go_simp;done)|simp [results,Tryz.results156,go_sem, *]) rfl ⟨rfl,bw⟩
theorem NK (n d:Int) (_hd:0<d):(0<=n->0<=n.tmod d)/\(n<0->n.tmod d≠0->n.tmod d<0):=by
 refine ⟨fun h=>Int.tmod_nonneg d h,fun h k=> ?_⟩
 have a:=Int.tmod_nonneg d (show 0<= -n by omega)
 rw [Int.neg_tmod] at a
 omega
theorem GM (n d:Int) (w:World) (hd:0<d) (h0: -4611686018427387904<=n) (h1:n<=4611686018427387904) (_d1:d<=9223372036854775807):
  Calls Tryz.prog 158 #[.int .i64 n,.int .i64 d] w fun e w'=>e= .returned (.int .i64 (n/d))/\w=w':=by
 have fe:fl n d=n/d:=if_pos hd
 have sg:=NK n d hd
 rw [<-fe]
 clear fe
 obtain ⟨k0,k1,⟨a,b⟩|⟨a,b,c⟩|⟨a,b,c⟩⟩:=uZ n d (by omega) h0 h1
 ·go_enter Tryz.func158,Tryz.ntmps158
  go_wp2
  go_ret
  exact ⟨rfl,rfl⟩
 ·have hn:(n.tmod d<0)=False:=eq_false (by
   have:decide (d<0)=false:=decide_eq_false (by omega)
   rw [this] at b
   have:=of_decide_eq_false b
   have:=sg.1 (by omega)
   omega)
  clear sg b
  go_enter Tryz.func158,Tryz.ntmps158
  go_wp2
  go_ret
  exact ⟨rfl,rfl⟩
 ·have hn:(n.tmod d<0)=True:=eq_true (by
   have:decide (d<0)=false:=decide_eq_false (by omega)
   rw [this] at b
   have:=of_decide_eq_true (show decide (n<0)=true by rw [b];rfl)
   exact sg.2 this a)
  have e:Hid (fl n d+1-1=fl n d):=by unfold Hid;omega
  clear sg b
  go_enter Tryz.func158,Tryz.ntmps158
  go_wp2
  go_ret
  exact ⟨by first|rfl|exact N3 (by omega),rfl⟩
theorem FR (a b:Nat) (ha:a<4611686018427387904) (hb:b<4611686018427387904):bits .or .i64 (a:Int) (b:Int)=((a ||| b:Nat):Int):=by
 have hx:a ||| b<2^62:=Nat.or_lt_two_pow (by omega) (by omega)
 show IntKind.i64.wrap ((BitVec.ofInt 64 (a:Int) ||| BitVec.ofInt 64 (b:Int)).toNat:Int)=_
 rw [BitVec.toNat_or,ofInt_u64 a (by omega),ofInt_u64 b (by omega),IntKind.wrap_i64]
 omega
def uD (n k b:Int):Prop:=oA n k b/\(0<b->∃a:Nat,k=(a:Int)*(2*b))
theorem WR {n k b:Int} (h1:n<=2305843009213693952) (h:uD n k b) (hb:0<b):bits BinOp.or IntKind.i64 k b=k+b:=by
 have bd:=rC h1 h.1
 obtain ⟨⟨j,hj,rfl,k0,k1,k2,k3⟩,h2⟩:=h
 obtain ⟨a,rfl⟩:=h2 hb
 cases j with
 |zero=>simp at hb
 |succ j=>
  have e:(2:Int)^(j+1)/2=((2^j:Nat):Int):=by rw [Int.pow_succ];push_cast;omega
  rw [e] at bd hb ⊢
  have e2:(a:Int)*(2*((2^j:Nat):Int))=((a*2^(j+1):Nat):Int):=by push_cast;rw [Int.pow_succ];grind
  rw [e2] at bd ⊢
  rw [FR _ _ (by omega) (by omega),<-Nat.shiftLeft_eq,<-Nat.shiftLeft_add_eq_or_of_lt (by rw [Nat.pow_succ];have:=Nat.two_pow_pos j;omega)]
  push_cast
  rfl
theorem CW {n k b:Int} (h:uD n k b) (hb:0<b):((k+b)*(k+b)<=n->uD n (k+b) (b/2))/\(¬(k+b)*(k+b)<=n->uD n k (b/2)):=by
 have N:=pK h.1 hb
 have D:0<b/2->b/2*2=b:=by
  obtain ⟨j,hj,rfl,_⟩:=h.1
  intro g
  cases j with
  |zero=>simp at hb
  |succ j=>
   have e:(2:Int)^(j+1)/2=2^j:=by rw [Int.pow_succ];omega
   rw [e] at g ⊢
   cases j with
   |zero=>simp at g
   |succ j=>rw [Int.pow_succ];omega
 obtain ⟨a,ha⟩:=h.2 hb
 refine ⟨fun g=>⟨N.1 g,fun q=>⟨2*a+1,?_⟩⟩,fun g=>⟨N.2 g,fun q=>⟨2*a,?_⟩⟩⟩
 ·have:=D q
  rw [ha]
  generalize b/2=c at*
  subst this
  push_cast
  grind
 ·have:=D q
  rw [ha]
  generalize b/2=c at*
  subst this
  push_cast
  grind
theorem BK (n:Int) (h0:0<=n) (h1:n<=2305843009213693952):uD n 0 2147483648:=⟨oJ n h0 h1,fun _=>⟨0,by omega⟩⟩
set_option maxHeartbeats 400000 in
theorem tP (n r:Int) (w:World) (h0:0<=n) (h1:n<=2305843009213693952) (r0:0<=r) (r1:r*r<=n) (r2:n<(r+1)*(r+1)):
  Calls Tryz.prog 85 #[.int .i64 n] w fun e w'=>e= .returned (.tuple #[.int .i64 r,.bool (r*r==n)])/\w=w':=by
 have R:=b6 (And.intro r0 (And.intro r1 r2))
 clear r0 r1 r2
 go_enter Tryz.func85,Tryz.ntmps85
 go_wp2
 go_loop [4,5] (fun K B=>∃k b:Int,uD n k b/\K= .int .i64 k/\B= .int .i64 b) (fun _ B=>(intOf B).toNat)
 case atStart=>exact ⟨0,2147483648,BK n h0 h1,rfl,rfl⟩
 case round=>
  obtain ⟨k,b,hI,rfl,rfl⟩:=hrel
  obtain ⟨b1,b2,b3,b4,b5⟩:=rC h1 hI.1
  by_cases hb:0<b
  ·have N:=CW hI hb
   have wq:0<=(k+b)*(k+b)/\(k+b)*(k+b)<=9223372036854775807:=by
    have:=iZ (show 0<=k+b by omega) (show k+b<=2592242073 by omega)
    have:=Int.mul_nonneg (show 0<=k+b by omega) (show 0<=k+b by omega)
    omega
   have wr:IntKind.i64.wrap ((k+b)*(k+b))=(k+b)*(k+b):=Y3 (by omega) (by omega)
   have wo:=WR h1 hI hb
   have w3:(k+b<=3000000000)=True:=eq_true (by omega)
   clear wq
   replace N:=b6 N
   replace hI:=b6 hI
   by_cases hs:(k+b)*(k+b)<=n
   ·go_wp2
    go_round
    case rel=>exact ⟨k+b,b/2,N.out.1 hs,rfl,by first|rfl|go_num⟩
    case measure=>simp [intOf];omega
   ·go_wp2
    go_round
    case rel=>exact ⟨k,b/2,N.out.2 hs,rfl,by first|rfl|go_num⟩
    case measure=>simp [intOf];omega
  ·have e:=tA hI.1 (by omega) R.out.1 R.out.2.1 R.out.2.2
   subst e
   have wq:IntKind.i64.wrap (k*k)=k*k:=by
    have a:=R.out.2.1
    have b:=Int.mul_nonneg R.out.1 R.out.1
    exact Y3 (by omega) (by omega)
   replace hI:=b6 hI
   go_wp2
   exact bodyPost_ret (v:= .tuple #[.int .i64 k,.bool (k*k==n)]) (by first|(simp only [results,Tryz.results85];go_simp;done)|simp [results,Tryz.results85,go_sem, *]) rfl ⟨rfl,rfl⟩
theorem xG (n:Int) (w:World)
  (W:CB 275 #[.int .i64 0] (.int .i64 n)):
  Calls Tryz.prog 228 #[.int .i64 0] w fun e w'=>e= .returned (.tuple #[.agg #[.int .i64 0,.int .i64 0],.int .i64 0])/\Below w.heap.size w w':=by
 have O:=b6 fun w=>Q9 0 w
 have N:=b6 fun w=>gE 0 0 w (by decide) (by decide)
 have m0:max (0:Int) 0=0:=by decide
 go_enter Tryz.func228,Tryz.ntmps228
 go_wp2_with (first|(go_at_call 83;((with_reducible refine am (O.out _) ?_);intro w' hb);replace hb:=mU;obtain ⟨hcell,hfroz,hz,_⟩:=mB;obtain ⟨w1,rfl⟩:=nm w')|(go_at_call 82;((with_reducible refine am (N.out _) ?_);intro w' hb);replace hb:=mU;obtain ⟨hcell,hfroz,hz,_⟩:=mB;obtain ⟨w2,rfl⟩:=nm w')|(go_at_call 275;((with_reducible refine am (W.out _) ?_);intro w' hb);replace hb:=mU;obtain ⟨hcell,hfroz,hz,_⟩:=mB;obtain ⟨w3,rfl⟩:=nm w'))
 exact bodyPost_ret (v:= .tuple #[.agg #[.int .i64 0,.int .i64 0],.int .i64 0]) (by first|(simp only [results,Tryz.results228];go_simp;done)|simp [results,Tryz.results228,go_sem, *]) rfl ⟨rfl,bw⟩
theorem OJ (z n:Int) (w:World) (h0:0<z) (h1:z<=5340000) (n0:0<=n) (n1:n<=1000000000000)
  (W:CB 275 #[.int .i64 z] (.int .i64 n)):
  Calls Tryz.prog 228 #[.int .i64 z] w fun e w'=>e= .returned (.tuple #[.agg #[.int .i64 n,.int .i64 (n+1)],.int .i64 0])/\Below w.heap.size w w':=by
 have O:=b6 fun w=>Q9 z w
 have N:=b6 fun w=>gE z z w (by omega) (by omega)
 have m0:max z (-z)=z:=by omega
 have m1:(z==0)=false:=by simp;omega
 have m2:(z<0)=False:=eq_false (by omega)
 have m4:(z< -z)=False:=eq_false (by omega)
 have m5:(-z<z)=True:=eq_true (by omega)
 have m3:IntKind.i64.wrap (n+1)=n+1:=by rw [IntKind.wrap_i64];omega
 have m6:IntKind.i64.wrap (-z)= -z:=by rw [IntKind.wrap_i64];omega
 go_enter Tryz.func228,Tryz.ntmps228
 go_wp2_with (first|(go_at_call 83;((with_reducible refine am (O.out _) ?_);intro w' hb);replace hb:=mU;obtain ⟨hcell,hfroz,hz,_⟩:=mB;obtain ⟨w1,rfl⟩:=nm w')|(go_at_call 82;((with_reducible refine am (N.out _) ?_);intro w' hb);replace hb:=mU;obtain ⟨hcell,hfroz,hz,_⟩:=mB;obtain ⟨w2,rfl⟩:=nm w')|(go_at_call 275;((with_reducible refine am (W.out _) ?_);intro w' hb);replace hb:=mU;obtain ⟨hcell,hfroz,hz,_⟩:=mB;obtain ⟨w3,rfl⟩:=nm w'))
 exact bodyPost_ret (v:= .tuple #[.agg #[.int .i64 n,.int .i64 (n+1)],.int .i64 0]) (by first|(simp only [results,Tryz.results228];go_simp;done)|simp [results,Tryz.results228,go_sem, *]) rfl ⟨rfl,bw⟩
theorem xI (z n:Int) (w:World) (h0:z<0) (h1: -5340000<=z) (n0:0<=n) (n1:n<=1000000000000)
  (W:CB 275 #[.int .i64 (-z)] (.int .i64 n)):
  Calls Tryz.prog 228 #[.int .i64 z] w fun e w'=>e= .returned (.tuple #[.agg #[.int .i64 (-n-1),.int .i64 (-n)],.int .i64 0])/\Below w.heap.size w w':=by
 have O:=b6 fun w=>Q9 z w
 have N:=b6 fun w=>gE z z w (by omega) (by omega)
 have m0:max z (-z)= -z:=by omega
 have m1:(z==0)=false:=by simp;omega
 have m2:(z<0)=True:=eq_true (by omega)
 have m4:(z< -z)=True:=eq_true (by omega)
 have m5:(-z<z)=False:=eq_false (by omega)
 have m3:IntKind.i64.wrap (-n)= -n:=by rw [IntKind.wrap_i64];omega
 have m6:IntKind.i64.wrap (-z)= -z:=by rw [IntKind.wrap_i64];omega
 have m7:IntKind.i64.wrap (-n-1)= -n-1:=by rw [IntKind.wrap_i64];omega
 go_enter Tryz.func228,Tryz.ntmps228
 go_wp2_with (first|(go_at_call 83;((with_reducible refine am (O.out _) ?_);intro w' hb);replace hb:=mU;obtain ⟨hcell,hfroz,hz,_⟩:=mB;obtain ⟨w1,rfl⟩:=nm w')|(go_at_call 82;((with_reducible refine am (N.out _) ?_);intro w' hb);replace hb:=mU;obtain ⟨hcell,hfroz,hz,_⟩:=mB;obtain ⟨w2,rfl⟩:=nm w')|(go_at_call 275;((with_reducible refine am (W.out _) ?_);intro w' hb);replace hb:=mU;obtain ⟨hcell,hfroz,hz,_⟩:=mB;obtain ⟨w3,rfl⟩:=nm w'))
 exact bodyPost_ret (v:= .tuple #[.agg #[.int .i64 (-n-1),.int .i64 (-n)],.int .i64 0]) (by first|(simp only [results,Tryz.results228];go_simp;done)|simp [results,Tryz.results228,go_sem, *]) rfl ⟨rfl,bw⟩
theorem DL (z p q:Int) (w:World)
  (P:CB 228 #[.int .i64 z] (.tuple #[.agg #[.int .i64 p,.int .i64 q],.int .i64 0])):
  Calls Tryz.prog 157 #[.agg #[.int .i64 z,.int .i64 z]] w fun e w'=>e= .returned (.agg #[.int .i64 p,.int .i64 q])/\Below w.heap.size w w':=by
 go_enter Tryz.func157,Tryz.ntmps157
 go_upto_region 2 with (go_at_call 228;((with_reducible refine am (P.out _) ?_);intro w' hb);replace hb:=mU;obtain ⟨hcell,hfroz,hz,_⟩:=mB;obtain ⟨w1,rfl⟩:=nm w')
 go_wp2_with (go_at_call 228;((with_reducible refine am (P.out _) ?_);intro w' hb);replace hb:=mU;obtain ⟨hcell,hfroz,hz,_⟩:=mB;obtain ⟨w2,rfl⟩:=nm w')
 exact bodyPost_ret (v:= .agg #[.int .i64 p,.int .i64 q]) (by first|(simp only [results,Tryz.results157];go_simp;done)|simp [results,Tryz.results157,go_sem, *]) rfl ⟨rfl,bw⟩
set_option maxRecDepth 100000 in
set_option maxHeartbeats 8000000 in
theorem LF (a b lo hi cl ch pb qb pa qa x y:Int) (w:World) (hlo:min a b=lo) (hhi:max a b=hi) (hx:pb-qa=x) (hy:qb-pa=y) (bd: -1000000000000<=x/\x<=1000000000000/\ -1000000000000<=y/\y<=1000000000000) (ab: -10000000<=a/\a<=10000000/\ -10000000<=b/\b<=10000000) (x0:x<=0) (y0:0<=y)
  (CO:CB 124 #[.agg #[.int .i64 lo,.int .i64 hi]] (.tuple #[.agg #[.int .i64 cl,.int .i64 ch],.int .i64 0]))
  (M1:CB 157 #[.agg #[.int .i64 b,.int .i64 b]] (.agg #[.int .i64 pb,.int .i64 qb]))
  (M2:CB 157 #[.agg #[.int .i64 a,.int .i64 a]] (.agg #[.int .i64 pa,.int .i64 qa])):
  Calls Tryz.prog 84 #[.int .i64 a,.int .i64 b] w fun e w'=>e= .returned (.tuple #[.agg #[.int .i64 cl,.int .i64 ch],.int .i64 0])/\Below w.heap.size w w':=by
 have O1:=b6 fun w=>Q9 b w
 have O2:=b6 fun w=>Q9 a w
 have SU:=b6 fun w=>iL pb qb pa qa x y w (by rw [IntKind.wrap_i64];omega) (by rw [IntKind.wrap_i64];omega)
 have wn:IntKind.i64.wrap (b-a)=b-a:=by rw [IntKind.wrap_i64];omega
 have k1:(y<0)=False:=eq_false (by omega)
 have k2:(x<=0)=True:=eq_true x0
 clear hx hy bd ab x0 y0
 go_enter Tryz.func84,Tryz.ntmps84
 go_upto_region 7 with (first|(go_at_call 83;((with_reducible refine am (O1.out _) ?_);intro w' hb);replace hb:=mU;obtain ⟨hcell,hfroz,hz,_⟩:=mB;obtain ⟨w5,rfl⟩:=nm w')|(go_at_call 83;((with_reducible refine am (O2.out _) ?_);intro w' hb);replace hb:=mU;obtain ⟨hcell,hfroz,hz,_⟩:=mB;obtain ⟨w6,rfl⟩:=nm w')|(go_at_call 124;((with_reducible refine am (CO.out _) ?_);intro w' hb);replace hb:=mU;obtain ⟨hcell,hfroz,hz,_⟩:=mB;obtain ⟨w1,rfl⟩:=nm w')|(go_at_call 157;((with_reducible refine am (M1.out _) ?_);intro w' hb);replace hb:=mU;obtain ⟨hcell,hfroz,hz,_⟩:=mB;obtain ⟨w2,rfl⟩:=nm w')|(go_at_call 157;((with_reducible refine am (M2.out _) ?_);intro w' hb);replace hb:=mU;obtain ⟨hcell,hfroz,hz,_⟩:=mB;obtain ⟨w3,rfl⟩:=nm w')|(go_at_call 156;((with_reducible refine am (SU.out _) ?_);intro w' hb);replace hb:=mU;obtain ⟨hcell,hfroz,hz,_⟩:=mB;obtain ⟨w4,rfl⟩:=nm w'))
 refine m9 ?_
 intro w' hb
 replace hb:=mU;obtain ⟨hcell,hfroz,hz,_⟩:=mB
 have rr0:=cq w' w.heap.size 0 (0)
 have rr1:=cq w' w.heap.size 1 (0)
 have qq0:=cq w' w1.heap.size 0 (cl)
 have qq1:=cq w' w1.heap.size 1 (ch)
 have mm0:=cq w' w4.heap.size 0 (x)
 have mm1:=cq w' w4.heap.size 1 (y)
 have rf:∀o,w'.frozen? ⟨w.heap.size,o,none⟩=false:=by intro o;simp [go_sem, *]
 have mf:∀o,w'.frozen? ⟨w4.heap.size,o,none⟩=false:=by intro o;simp [go_sem, *]
 have hw0:Below w.heap.size w w':=bw
 have hne:w.heap.size<w1.heap.size:=by omega
 have hne2:w1.heap.size<w4.heap.size:=by omega
 clear hcell hfroz hz hb
 obtain ⟨V0,rfl⟩:=nm w'
 have gm:w4.heap.size<V0.heap.size:=World.block_lt_of_cell? _ _ mm0
 generalize w1.heap.size=BQ at*
 generalize w4.heap.size=BM at*
 have gq:BQ<V0.heap.size:=by omega
 have gr:w.heap.size<V0.heap.size:=by omega
 go_wp2
 all_goals exact bodyPost_ret (v:= .tuple #[.agg #[.int .i64 cl,.int .i64 ch],.int .i64 0]) (by first|(simp only [results,Tryz.results84];go_simp;done)|simp [results,Tryz.results84,go_sem, *]) rfl ⟨rfl,bw⟩
set_option maxRecDepth 100000 in
set_option maxHeartbeats 8000000 in
theorem VX (a b n lo hi cl ch pb qb pa qa u v fl1 fl2 hm L H:Int) (w:World) (hlo:min a b=lo) (hhi:max a b=hi) (hn:b-a=n) (n0:0<n) (fb: -100000000000000000<=fl2/\fl2<=100000000000000000) (hmm:min (-fl2) 1073741824=hm) (hx:pb-qa=u) (hy:qb-pa=v) (bd: -1000000000000<=u/\u<=1000000000000/\ -1000000000000<=v/\v<=1000000000000) (ab: -10000000<=a/\a<=10000000/\ -10000000<=b/\b<=10000000) (x0:0<u) (y0:0<v)
  (CO:CB 124 #[.agg #[.int .i64 lo,.int .i64 hi]] (.tuple #[.agg #[.int .i64 cl,.int .i64 ch],.int .i64 0]))
  (M1:CB 157 #[.agg #[.int .i64 b,.int .i64 b]] (.agg #[.int .i64 pb,.int .i64 qb]))
  (M2:CB 157 #[.agg #[.int .i64 a,.int .i64 a]] (.agg #[.int .i64 pa,.int .i64 qa]))
  (F1:CB 158 #[.int .i64 (n*1073741824),.int .i64 v] (.int .i64 fl1))
  (F2:CB 158 #[.int .i64 (-n*1073741824),.int .i64 u] (.int .i64 fl2))
  (ME:CB 159 #[.agg #[.int .i64 cl,.int .i64 ch],.agg #[.int .i64 fl1,.int .i64 hm]] (.tuple #[.agg #[.int .i64 L,.int .i64 H],.int .i64 0])):
  Calls Tryz.prog 84 #[.int .i64 a,.int .i64 b] w fun e w'=>e= .returned (.tuple #[.agg #[.int .i64 L,.int .i64 H],.int .i64 0])/\Below w.heap.size w w':=by
 have O1:=b6 fun w=>Q9 b w
 have O2:=b6 fun w=>Q9 a w
 have SU:=b6 fun w=>iL pb qb pa qa u v w (by rw [IntKind.wrap_i64];omega) (by rw [IntKind.wrap_i64];omega)
 have wn:IntKind.i64.wrap (b-a)=n:=by rw [IntKind.wrap_i64];omega
 have m1:IntKind.i64.wrap (n*1073741824)=n*1073741824:=by rw [IntKind.wrap_i64];omega
 have m2:IntKind.i64.wrap (-n)= -n:=by rw [IntKind.wrap_i64];omega
 have m3:IntKind.i64.wrap (-n*1073741824)= -n*1073741824:=by rw [IntKind.wrap_i64];omega
 have m4:IntKind.i64.wrap (-fl2)= -fl2:=by rw [IntKind.wrap_i64];omega
 have k3:(n==0)=false:=by simp;omega
 have k4:(u<=0)=False:=eq_false (by omega)
 have k1:(v<0)=False:=eq_false (by omega)
 clear hx hy bd ab x0 y0 hn n0 fb
 go_enter Tryz.func84,Tryz.ntmps84
 go_upto_region 7 with (first|(go_at_call 83;((with_reducible refine am (O1.out _) ?_);intro w' hb);replace hb:=mU;obtain ⟨hcell,hfroz,hz,_⟩:=mB;obtain ⟨w5,rfl⟩:=nm w')|(go_at_call 83;((with_reducible refine am (O2.out _) ?_);intro w' hb);replace hb:=mU;obtain ⟨hcell,hfroz,hz,_⟩:=mB;obtain ⟨w6,rfl⟩:=nm w')|(go_at_call 124;((with_reducible refine am (CO.out _) ?_);intro w' hb);replace hb:=mU;obtain ⟨hcell,hfroz,hz,_⟩:=mB;obtain ⟨w1,rfl⟩:=nm w')|(go_at_call 157;((with_reducible refine am (M1.out _) ?_);intro w' hb);replace hb:=mU;obtain ⟨hcell,hfroz,hz,_⟩:=mB;obtain ⟨w2,rfl⟩:=nm w')|(go_at_call 157;((with_reducible refine am (M2.out _) ?_);intro w' hb);replace hb:=mU;obtain ⟨hcell,hfroz,hz,_⟩:=mB;obtain ⟨w3,rfl⟩:=nm w')|(go_at_call 156;((with_reducible refine am (SU.out _) ?_);intro w' hb);replace hb:=mU;obtain ⟨hcell,hfroz,hz,_⟩:=mB;obtain ⟨w4,rfl⟩:=nm w'))
 refine m9 ?_
 intro w' hb
 replace hb:=mU;obtain ⟨hcell,hfroz,hz,_⟩:=mB
 have rr0:=cq w' w.heap.size 0 (0)
 have rr1:=cq w' w.heap.size 1 (0)
 have qq0:=cq w' w1.heap.size 0 (cl)
 have qq1:=cq w' w1.heap.size 1 (ch)
 have mm0:=cq w' w4.heap.size 0 (u)
 have mm1:=cq w' w4.heap.size 1 (v)
 have rf:∀o,w'.frozen? ⟨w.heap.size,o,none⟩=false:=by intro o;simp [go_sem, *]
 have mf:∀o,w'.frozen? ⟨w4.heap.size,o,none⟩=false:=by intro o;simp [go_sem, *]
 have hw0:Below w.heap.size w w':=bw
 have hne:w.heap.size<w1.heap.size:=by omega
 have hne2:w1.heap.size<w4.heap.size:=by omega
 clear hcell hfroz hz hb
 obtain ⟨V0,rfl⟩:=nm w'
 have gm:w4.heap.size<V0.heap.size:=World.block_lt_of_cell? _ _ mm0
 generalize w1.heap.size=BQ at*
 generalize w4.heap.size=BM at*
 have gq:BQ<V0.heap.size:=by omega
 have gr:w.heap.size<V0.heap.size:=by omega
 go_upto_region 9 with fail
 refine wp_region_quiet_below (by kernel_rfl) (by kernel_rfl) ?_
 repeat (first|go_big_quiet_step ((first|(go_at_call 158;(with_reducible exact Calls.regrown_of (F1.out _)))|(go_at_call 158;(with_reducible exact Calls.regrown_of (F2.out _)))))|quiet_step ((first|(go_at_call 158;(with_reducible exact Calls.regrown_of (F1.out _)))|(go_at_call 158;(with_reducible exact Calls.regrown_of (F2.out _))))))
 refine wpQuiet_nil ?_;intro w' hw';have hb:=i8 hw';clear hw';replace hb:=mU;obtain ⟨hcell,hfroz,hz,_⟩:=mB
 have gr:w.heap.size<w'.heap.size:=by omega
 go_wp2_with (go_at_call 159;((with_reducible refine am (ME.out _) ?_);intro w' hb);replace hb:=mU;obtain ⟨hcell,hfroz,hz,_⟩:=mB;obtain ⟨w7,rfl⟩:=nm w')
 exact bodyPost_ret (v:= .tuple #[.agg #[.int .i64 L,.int .i64 H],.int .i64 0]) (by first|(simp only [results,Tryz.results84];go_simp;done)|simp [results,Tryz.results84,go_sem, *]) rfl ⟨rfl,bw⟩
set_option maxRecDepth 100000 in
set_option maxHeartbeats 8000000 in
theorem CF (a b n lo hi cl ch pb qb pa qa x y u v fl1 fl2 hm L H:Int) (w:World) (hlo:min a b=lo) (hhi:max a b=hi) (hn:a-b=n) (n0:0<n) (fb: -100000000000000000<=fl2/\fl2<=100000000000000000) (hmm:min (-fl2) 1073741824=hm) (hx:pb-qa=x) (hy:qb-pa=y) (bd: -1000000000000<=x/\x<=1000000000000/\ -1000000000000<=y/\y<=1000000000000) (ab: -10000000<=a/\a<=10000000/\ -10000000<=b/\b<=10000000) (hu: -y=u) (hv: -x=v) (x0:0<u) (y0:0<v)
  (CO:CB 124 #[.agg #[.int .i64 lo,.int .i64 hi]] (.tuple #[.agg #[.int .i64 cl,.int .i64 ch],.int .i64 0]))
  (M1:CB 157 #[.agg #[.int .i64 b,.int .i64 b]] (.agg #[.int .i64 pb,.int .i64 qb]))
  (M2:CB 157 #[.agg #[.int .i64 a,.int .i64 a]] (.agg #[.int .i64 pa,.int .i64 qa]))
  (F1:CB 158 #[.int .i64 (n*1073741824),.int .i64 v] (.int .i64 fl1))
  (F2:CB 158 #[.int .i64 (-n*1073741824),.int .i64 u] (.int .i64 fl2))
  (ME:CB 159 #[.agg #[.int .i64 cl,.int .i64 ch],.agg #[.int .i64 fl1,.int .i64 hm]] (.tuple #[.agg #[.int .i64 L,.int .i64 H],.int .i64 0])):
  Calls Tryz.prog 84 #[.int .i64 a,.int .i64 b] w fun e w'=>e= .returned (.tuple #[.agg #[.int .i64 L,.int .i64 H],.int .i64 0])/\Below w.heap.size w w':=by
 have O1:=b6 fun w=>Q9 b w
 have O2:=b6 fun w=>Q9 a w
 have SU:=b6 fun w=>iL pb qb pa qa x y w (by rw [IntKind.wrap_i64];omega) (by rw [IntKind.wrap_i64];omega)
 have wn:IntKind.i64.wrap (b-a)= -n:=by rw [IntKind.wrap_i64];omega
 have m1:IntKind.i64.wrap (n*1073741824)=n*1073741824:=by rw [IntKind.wrap_i64];omega
 have m2:IntKind.i64.wrap (-n)= -n:=by rw [IntKind.wrap_i64];omega
 have m3:IntKind.i64.wrap (-n*1073741824)= -n*1073741824:=by rw [IntKind.wrap_i64];omega
 have m4:IntKind.i64.wrap (-fl2)= -fl2:=by rw [IntKind.wrap_i64];omega
 have k3:(n==0)=false:=by simp;omega
 have k4:(u<=0)=False:=eq_false (by omega)
 have k1:(y<0)=True:=eq_true (by omega)
 have wm:IntKind.i64.wrap (- -n)=n:=by rw [IntKind.wrap_i64];omega
 have wm2:IntKind.i64.wrap n=n:=by rw [IntKind.wrap_i64];omega
 have wu:IntKind.i64.wrap (-y)=u:=by rw [IntKind.wrap_i64];omega
 have wv:IntKind.i64.wrap (-x)=v:=by rw [IntKind.wrap_i64];omega
 clear hx hy hu hv bd ab x0 y0 hn n0 fb
 go_enter Tryz.func84,Tryz.ntmps84
 go_upto_region 6 with (first|(go_at_call 83;((with_reducible refine am (O1.out _) ?_);intro w' hb);replace hb:=mU;obtain ⟨hcell,hfroz,hz,_⟩:=mB;obtain ⟨w5,rfl⟩:=nm w')|(go_at_call 83;((with_reducible refine am (O2.out _) ?_);intro w' hb);replace hb:=mU;obtain ⟨hcell,hfroz,hz,_⟩:=mB;obtain ⟨w6,rfl⟩:=nm w')|(go_at_call 124;((with_reducible refine am (CO.out _) ?_);intro w' hb);replace hb:=mU;obtain ⟨hcell,hfroz,hz,_⟩:=mB;obtain ⟨w1,rfl⟩:=nm w')|(go_at_call 157;((with_reducible refine am (M1.out _) ?_);intro w' hb);replace hb:=mU;obtain ⟨hcell,hfroz,hz,_⟩:=mB;obtain ⟨w2,rfl⟩:=nm w')|(go_at_call 157;((with_reducible refine am (M2.out _) ?_);intro w' hb);replace hb:=mU;obtain ⟨hcell,hfroz,hz,_⟩:=mB;obtain ⟨w3,rfl⟩:=nm w')|(go_at_call 156;((with_reducible refine am (SU.out _) ?_);intro w' hb);replace hb:=mU;obtain ⟨hcell,hfroz,hz,_⟩:=mB;obtain ⟨w4,rfl⟩:=nm w'))
 refine m9 ?_
 intro w' hb
 replace hb:=mU;obtain ⟨hcell,hfroz,hz,_⟩:=mB
 have rr0:=cq w' w.heap.size 0 (0)
 have rr1:=cq w' w.heap.size 1 (0)
 have qq0:=cq w' w1.heap.size 0 (cl)
 have qq1:=cq w' w1.heap.size 1 (ch)
 have mm0:=cq w' w4.heap.size 0 (x)
 have mm1:=cq w' w4.heap.size 1 (y)
 have rf:∀o,w'.frozen? ⟨w.heap.size,o,none⟩=false:=by intro o;simp [go_sem, *]
 have mf:∀o,w'.frozen? ⟨w4.heap.size,o,none⟩=false:=by intro o;simp [go_sem, *]
 have hw0:Below w.heap.size w w':=bw
 have hne:w.heap.size<w1.heap.size:=by omega
 have hne2:w1.heap.size<w4.heap.size:=by omega
 clear hcell hfroz hz hb
 obtain ⟨V0,rfl⟩:=nm w'
 have gm:w4.heap.size<V0.heap.size:=World.block_lt_of_cell? _ _ mm0
 generalize w1.heap.size=BQ at*
 generalize w4.heap.size=BM at*
 have gq:BQ<V0.heap.size:=by omega
 have gr:w.heap.size<V0.heap.size:=by omega
 refine n9 10 (by kernel_rfl) (by kernel_rfl) ?_
 simp only [List.take_succ_cons,List.take_zero,List.drop_succ_cons,List.drop_zero]
 repeat (first|go_big_quiet_step (fail)|quiet_step (fail))
 refine wpQuiet_nil ?_;intro w' hw';have hb:=i8 hw';clear hw';replace hb:=mU;obtain ⟨hcell,hfroz,hz,_⟩:=mB
 have gq:BQ<w'.heap.size:=by omega
 have gm:BM<w'.heap.size:=by omega
 have gr:w.heap.size<w'.heap.size:=by omega
 go_upto_region 7 with fail
 refine m9 ?_
 intro w' hb
 replace hb:=mU;obtain ⟨hcell,hfroz,hz,_⟩:=mB
 have rr0:=cq w' w.heap.size 0 (0)
 have rr1:=cq w' w.heap.size 1 (0)
 have qq0:=cq w' BQ 0 (cl)
 have qq1:=cq w' BQ 1 (ch)
 have mm0:=cq w' BM 0 (u)
 have mm1:=cq w' BM 1 (v)
 have rf:∀o,w'.frozen? ⟨w.heap.size,o,none⟩=false:=by intro o;simp [go_sem, *]
 have hw0:Below w.heap.size w w':=bw
 clear hcell hfroz hz hb
 obtain ⟨V1,rfl⟩:=nm w'
 have gm:BM<V1.heap.size:=World.block_lt_of_cell? _ _ mm0
 have gq:BQ<V1.heap.size:=by omega
 have gr:w.heap.size<V1.heap.size:=by omega
 go_upto_region 9 with fail
 refine wp_region_quiet_below (by kernel_rfl) (by kernel_rfl) ?_
 repeat (first|go_big_quiet_step ((first|(go_at_call 158;(with_reducible exact Calls.regrown_of (F1.out _)))|(go_at_call 158;(with_reducible exact Calls.regrown_of (F2.out _)))))|quiet_step ((first|(go_at_call 158;(with_reducible exact Calls.regrown_of (F1.out _)))|(go_at_call 158;(with_reducible exact Calls.regrown_of (F2.out _))))))
 refine wpQuiet_nil ?_;intro w' hw';have hb:=i8 hw';clear hw';replace hb:=mU;obtain ⟨hcell,hfroz,hz,_⟩:=mB
 have gr:w.heap.size<w'.heap.size:=by omega
 go_wp2_with (go_at_call 159;((with_reducible refine am (ME.out _) ?_);intro w' hb);replace hb:=mU;obtain ⟨hcell,hfroz,hz,_⟩:=mB;obtain ⟨w7,rfl⟩:=nm w')
 exact bodyPost_ret (v:= .tuple #[.agg #[.int .i64 L,.int .i64 H],.int .i64 0]) (by first|(simp only [results,Tryz.results84];go_simp;done)|simp [results,Tryz.results84,go_sem, *]) rfl ⟨rfl,bw⟩
set_option maxRecDepth 100000 in
set_option maxHeartbeats 8000000 in
theorem MD (la lo lb lob dl dn cl ch nl nh p q most mp mq least lm x y:Int) (e1 ex:Bool) (w:World) (h1: -5340000<=la) (h2:la<=5340000) (h3: -10800000<=lo) (h4:lo<10800000) (k1: -5340000<=lb) (k2:lb<=5340000) (k3: -10800000<=lob) (k4:lob<10800000)
  (hdn:lb-la=dn) (nb: -100000000<=nl/\nl<=100000000/\ -100000000<=nh/\nh<=100000000) (lb0:0<=least/\least<=100000000) (mb0:0<=most/\most<=100000000) (yb:0<=y/\y<=1000000000)
  (m1:∀_:True,max nl (-nl)=mp) (m2:∀_:True,max nh (-nh)=mq) (m3:∀_:True,max (max mp nh) (-nh)=most) (m4:∀_:True,min mp mq=lm) (hl:least=if 0<nl\/nh<0 then lm else 0)
  (SG:CB 21 #[.int .i64 (lob-lo)] (.int .i64 dl))
  (ME:CB 84 #[.int .i64 la,.int .i64 lb] (.tuple #[.agg #[.int .i64 cl,.int .i64 ch],.int .i64 0]))
  (SC:CB 51 #[.agg #[.int .i64 cl,.int .i64 ch],.int .i64 dl] (.tuple #[.int .i64 nl,.int .i64 nh,.int .i64 0]))
  (BR:CB 47 #[.agg #[.int .i64 (64*nl),.int .i64 (64*nh)],.agg #[.int .i64 (64*dn),.int .i64 (64*dn)]] (.tuple #[.agg #[.int .i64 p,.int .i64 q],.int .i64 0]))
  (R1:CB 85 #[.int .i64 (dn*dn+least*least)] (.tuple #[.int .i64 x,.bool e1]))
  (R2:CB 85 #[.int .i64 (dn*dn+most*most)] (.tuple #[.int .i64 y,.bool ex])):
  Calls Tryz.prog 25 #[.agg #[.int .i64 la,.int .i64 lo],.agg #[.int .i64 lb,.int .i64 lob]] w fun e w'=>e= .returned (.tuple #[.agg #[.int .i64 p,.int .i64 q,.int .i64 x,.int .i64 (cond ex y (y+1))],.int .i64 0])/\Below w.heap.size w w':=by
 have V1:=b6 fun w=>tJ la lo w (by omega) (by omega) h3 h4
 have V2:=b6 fun w=>tJ lb lob w (by omega) (by omega) k3 k4
 have O1:=b6 fun w=>Q9 la w
 have O2:=b6 fun w=>Q9 lb w
 have N1:=b6 fun w=>gE la la w h1 h2
 have N2:=b6 fun w=>gE lb lb w k1 k2
 have c1:IntKind.i64.wrap (lob-lo)=lob-lo:=by rw [IntKind.wrap_i64];omega
 have c2:IntKind.i64.wrap (lb-la)=dn:=by rw [IntKind.wrap_i64];omega
 have c3:IntKind.i64.wrap (64*nl)=64*nl:=by rw [IntKind.wrap_i64];omega
 have c4:IntKind.i64.wrap (64*nh)=64*nh:=by rw [IntKind.wrap_i64];omega
 have c5:IntKind.i64.wrap (64*dn)=64*dn:=by rw [IntKind.wrap_i64];omega
 have c6:IntKind.i64.wrap (-nl)= -nl:=by rw [IntKind.wrap_i64];omega
 have c7:IntKind.i64.wrap (-nh)= -nh:=by rw [IntKind.wrap_i64];omega
 have sd:0<=dn*dn/\dn*dn<=10000000000000000:=by
  have a:=iZ (show 0<=(dn.natAbs:Int) by omega) (show (dn.natAbs:Int)<=100000000 by omega)
  have e:(dn.natAbs:Int)*dn.natAbs=dn*dn:=by rw [<-Int.natCast_mul,Int.natAbs_mul_self]
  rw [e] at a
  have b:=Int.mul_nonneg (show 0<=(dn.natAbs:Int) by omega) (show 0<=(dn.natAbs:Int) by omega)
  rw [e] at b
  exact ⟨b,by omega⟩
 have sl:=iZ lb0.1 lb0.2
 have sl0:=Int.mul_nonneg lb0.1 lb0.1
 have sm:=iZ mb0.1 mb0.2
 have sm0:=Int.mul_nonneg mb0.1 mb0.1
 have c8:IntKind.i64.wrap (dn*dn)=dn*dn:=by rw [IntKind.wrap_i64];omega
 have c9:IntKind.i64.wrap (least*least)=least*least:=by rw [IntKind.wrap_i64];omega
 have d1:IntKind.i64.wrap (most*most)=most*most:=by rw [IntKind.wrap_i64];omega
 have d2:IntKind.i64.wrap (dn*dn+least*least)=dn*dn+least*least:=by rw [IntKind.wrap_i64];omega
 have d3:IntKind.i64.wrap (dn*dn+most*most)=dn*dn+most*most:=by rw [IntKind.wrap_i64];omega
 have d4:IntKind.i64.wrap (y+1)=y+1:=by rw [IntKind.wrap_i64];omega
 clear sd sl sl0 sm sm0 nb lb0 mb0 yb hdn h1 h2 h3 h4 k1 k2 k3 k4
 go_enter Tryz.func25,Tryz.ntmps25
 go_upto_region 5 with (first|(go_at_call 81;((with_reducible refine am (V1.out _) ?_);intro w' hb);replace hb:=mU;obtain ⟨hcell,hfroz,hz,z6,z7,z8,z9,_⟩:=oH;obtain ⟨w1,rfl⟩:=nm w')|(go_at_call 81;((with_reducible refine am (V2.out _) ?_);intro w' hb);replace hb:=mU;obtain ⟨hcell,hfroz,hz,z6,z7,z8,z9,_⟩:=oH;obtain ⟨w2,rfl⟩:=nm w')|(go_at_call 83;((with_reducible refine am (O1.out _) ?_);intro w' hb);replace hb:=mU;obtain ⟨hcell,hfroz,hz,z6,z7,z8,z9,_⟩:=oH;obtain ⟨w3,rfl⟩:=nm w')|(go_at_call 83;((with_reducible refine am (O2.out _) ?_);intro w' hb);replace hb:=mU;obtain ⟨hcell,hfroz,hz,z6,z7,z8,z9,_⟩:=oH;obtain ⟨w4,rfl⟩:=nm w')|(go_at_call 82;((with_reducible refine am (N1.out _) ?_);intro w' hb);replace hb:=mU;obtain ⟨hcell,hfroz,hz,z6,z7,z8,z9,_⟩:=oH;obtain ⟨w5,rfl⟩:=nm w')|(go_at_call 82;((with_reducible refine am (N2.out _) ?_);intro w' hb);replace hb:=mU;obtain ⟨hcell,hfroz,hz,z6,z7,z8,z9,_⟩:=oH;obtain ⟨w6,rfl⟩:=nm w'))
 refine m9 ?_
 intro w' hb
 replace hb:=mU;obtain ⟨hcell,hfroz,hz,z6,z7,z8,z9,_⟩:=oH
 have aa0:=cq w' w.heap.size 0 (la)
 have aa1:=cq w' w.heap.size 1 (lo)
 have bb0:=cq w' (w.heap.size+1) 0 (lb)
 have bb1:=cq w' (w.heap.size+1) 1 (lob)
 have rr0:=cq w' (w.heap.size+1+1) 0 (0)
 have rr1:=cq w' (w.heap.size+1+1) 1 (0)
 have rr2:=cq w' (w.heap.size+1+1) 2 (0)
 have rr3:=cq w' (w.heap.size+1+1) 3 (0)
 have rf:∀o,w'.frozen? ⟨w.heap.size+1+1,o,none⟩=false:=by intro o;simp [go_sem, *]
 have hw0:Below w.heap.size w w':=bw
 clear hcell hfroz hz hb
 obtain ⟨V0,rfl⟩:=nm w'
 have g2:w.heap.size+1+1<V0.heap.size:=World.block_lt_of_cell? _ _ rr0
 have g1:w.heap.size+1<V0.heap.size:=by omega
 have g0:w.heap.size<V0.heap.size:=by omega
 refine wp_region_quiet_below (by kernel_rfl) (by kernel_rfl) ?_
 repeat (first|go_big_quiet_step ((go_at_call 21;(with_reducible exact Calls.regrown_of (SG.out _))))|quiet_step ((go_at_call 21;(with_reducible exact Calls.regrown_of (SG.out _)))))
 refine wpQuiet_nil ?_;intro w' hw';have hb:=i8 hw';clear hw';replace hb:=mU;obtain ⟨hcell,hfroz,hz,z6,z7,z8,z9,_⟩:=oH
 have g2:w.heap.size+1+1<w'.heap.size:=by omega
 have g1:w.heap.size+1<w'.heap.size:=by omega
 have g0:w.heap.size<w'.heap.size:=by omega
 go_upto_region 15 with (first|(go_at_call 84;((with_reducible refine am (ME.out _) ?_);intro w' hb);replace hb:=mU;obtain ⟨hcell,hfroz,hz,z6,z7,z8,z9,_⟩:=oH;obtain ⟨w7,rfl⟩:=nm w')|(go_at_call 51;((with_reducible refine am (SC.out _) ?_);intro w' hb);replace hb:=mU;obtain ⟨hcell,hfroz,hz,z6,z7,z8,z9,_⟩:=oH;obtain ⟨w8,rfl⟩:=nm w')|(go_at_call 47;((with_reducible refine am (BR.out _) ?_);intro w' hb);replace hb:=mU;obtain ⟨hcell,hfroz,hz,z6,z7,z8,z9,_⟩:=oH;obtain ⟨w9,rfl⟩:=nm w'))
 refine m9 ?_
 intro w' hb
 replace hb:=mU;obtain ⟨hcell,hfroz,hz,z6,z7,z8,z9,_⟩:=oH
 have pp0:=cq w' w9.heap.size 0 (p)
 have pp1:=cq w' w9.heap.size 1 (q)
 have rr0:=cq w' (w.heap.size+1+1) 0 (0)
 have rr1:=cq w' (w.heap.size+1+1) 1 (0)
 have rr2:=cq w' (w.heap.size+1+1) 2 (0)
 have rr3:=cq w' (w.heap.size+1+1) 3 (0)
 have rf:∀o,w'.frozen? ⟨w.heap.size+1+1,o,none⟩=false:=by intro o;simp [go_sem, *]
 have hw1:Below w.heap.size w w':=bw
 have hne:w.heap.size+1+1<w9.heap.size:=by omega
 clear hcell hfroz hz hb hw0
 obtain ⟨V1,rfl⟩:=nm w'
 have gp:w9.heap.size<V1.heap.size:=World.block_lt_of_cell? _ _ pp0
 generalize w9.heap.size=BP at*
 have g2:w.heap.size+1+1<V1.heap.size:=by omega
 by_cases hA:0<nl\/nh<0
 ·rw [if_pos hA] at hl
  subst hl
  by_cases hA1:0<nl
  all_goals
     cases ex
     all_goals
   go_wp2_with (first|(go_at_call 85;((with_reducible refine am (R1.out _) ?_);intro w' hb);replace hb:=mU;obtain ⟨hcell,hfroz,hz,z6,z7,z8,z9,_⟩:=oH;obtain ⟨w5,rfl⟩:=nm w')|(go_at_call 85;((with_reducible refine am (R2.out _) ?_);intro w' hb);replace hb:=mU;obtain ⟨hcell,hfroz,hz,z6,z7,z8,z9,_⟩:=oH;obtain ⟨w6,rfl⟩:=nm w'))
   first|exact bodyPost_ret (v:= .tuple #[.agg #[.int .i64 p,.int .i64 q,.int .i64 x,.int .i64 y],.int .i64 0]) (by first|(simp only [results,Tryz.results25];go_simp;done)|simp [results,Tryz.results25,go_sem, *]) rfl ⟨rfl,bw⟩|exact bodyPost_ret (v:= .tuple #[.agg #[.int .i64 p,.int .i64 q,.int .i64 x,.int .i64 (y+1)],.int .i64 0]) (by first|(simp only [results,Tryz.results25];go_simp;done)|simp [results,Tryz.results25,go_sem, *]) rfl ⟨rfl,bw⟩
 ·rw [if_neg hA] at hl
  subst hl
  have hA1:¬0<nl:=fun h=>hA (.inl h)
  have hA2:¬nh<0:=fun h=>hA (.inr h)
  clear hA
  rw [show (0:Int)*0=0 from rfl,Int.add_zero] at R1
  cases ex
  all_goals
     go_wp2_with (first|(go_at_call 85;((with_reducible refine am (R1.out _) ?_);intro w' hb);replace hb:=mU;obtain ⟨hcell,hfroz,hz,z6,z7,z8,z9,_⟩:=oH;obtain ⟨w5,rfl⟩:=nm w')|(go_at_call 85;((with_reducible refine am (R2.out _) ?_);intro w' hb);replace hb:=mU;obtain ⟨hcell,hfroz,hz,z6,z7,z8,z9,_⟩:=oH;obtain ⟨w6,rfl⟩:=nm w'))
     first|exact bodyPost_ret (v:= .tuple #[.agg #[.int .i64 p,.int .i64 q,.int .i64 x,.int .i64 y],.int .i64 0]) (by first|(simp only [results,Tryz.results25];go_simp;done)|simp [results,Tryz.results25,go_sem, *]) rfl ⟨rfl,bw⟩|exact bodyPost_ret (v:= .tuple #[.agg #[.int .i64 p,.int .i64 q,.int .i64 x,.int .i64 (y+1)],.int .i64 0]) (by first|(simp only [results,Tryz.results25];go_simp;done)|simp [results,Tryz.results25,go_sem, *]) rfl ⟨rfl,bw⟩
end Go.Proofs.YtdhbeoahpfimbaaGreat
