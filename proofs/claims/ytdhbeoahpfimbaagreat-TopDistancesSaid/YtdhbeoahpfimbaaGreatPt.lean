/- Part of the proof of TopDistances. -/
import Derived.Test.YtdhbeoahpfimbaaGreatRa
import Derived.Deep.Cut
import Derived.Deep.DeepCutAuto
import Derived.OwnWalk
import Derived.Test.YtdhbeoahpfimbaaGreatAg
namespace Go.Proofs.YtdhbeoahpfimbaaGreat
open Go.RowKit
def vc (l r c:Int):Prop:=0<=r/\0<=c/\((l=0/\r<1/\c<2)\/(l=1/\r<2/\c<4)\/(l=2/\r<4/\c<8)\/(l=3/\r<8/\c<16))
def bH (i l:Int):Int:=if l=0 then i*10800000 else if l=1 then i*10800000/2 else if l=2 then i*10800000/4 else i*10800000/8
set_option maxHeartbeats 1000000 in
theorem nJ (l r c:Int) (w:World) (h:vc l r c):
  Calls Tryz.prog 264 #[.agg #[.int .i64 l,.int .i64 r,.int .i64 c]] w fun e w'=>e= .returned (.bool true)/\Below w.heap.size w w':=by
 obtain ⟨r0,c0,h⟩:=h
 rcases h with ⟨rfl,h1,h2⟩|⟨rfl,h1,h2⟩|⟨rfl,h1,h2⟩|⟨rfl,h1,h2⟩
 all_goals
  go_enter Tryz.func264,Tryz.ntmps264
  go_wp2
  go_region
  go_wp2
  exact bodyPost_ret (v:= .bool true) (by first|(simp only [results,Tryz.results264];go_simp;done)|simp [results,Tryz.results264,go_sem, *]) rfl ⟨rfl,bv⟩
set_option maxHeartbeats 1000000 in
theorem lL (i l:Int) (w:World) (hl:l=0\/l=1\/l=2\/l=3) (i0:0<=i) (i1:i<=16):
  Calls Tryz.prog 336 #[.int .i64 i,.int .i64 l] w fun e w'=>e= .returned (.int .i64 (bH i l))/\w=w':=by
 rcases hl with rfl|rfl|rfl|rfl
 ·go_enter Tryz.func336,Tryz.ntmps336
  go_wp2
  exact bodyPost_ret (v:= .int .i64 (i*10800000)) (by first|(simp only [results,Tryz.results336];go_simp;done)|simp [results,Tryz.results336,go_sem, *]) rfl ⟨rfl,rfl⟩
 ·go_enter Tryz.func336,Tryz.ntmps336
  go_wp2
  exact bodyPost_ret (v:= .int .i64 (i*10800000/2)) (by first|(simp only [results,Tryz.results336];go_simp;done)|simp [results,Tryz.results336,go_sem, *]) rfl ⟨rfl,rfl⟩
 ·go_enter Tryz.func336,Tryz.ntmps336
  go_wp2
  exact bodyPost_ret (v:= .int .i64 (i*10800000/4)) (by first|(simp only [results,Tryz.results336];go_simp;done)|simp [results,Tryz.results336,go_sem, *]) rfl ⟨rfl,rfl⟩
 ·go_enter Tryz.func336,Tryz.ntmps336
  go_wp2
  exact bodyPost_ret (v:= .int .i64 (i*10800000/8)) (by first|(simp only [results,Tryz.results336];go_simp;done)|simp [results,Tryz.results336,go_sem, *]) rfl ⟨rfl,rfl⟩
theorem uJ (l i:Int) (h0:0<=i) (h1:i<=16):0<=bH i l/\bH i l<=172800000:=by
 unfold bH
 repeat' split
 all_goals omega
def GZ (l r c:Int):Value:= .agg #[.int .i64 (bH r l-5400000),.int .i64 (bH (r+1) l-5400000),.int .i64 (bH c l-10800000),.int .i64 (bH (c+1) l-10800000)]
set_option maxRecDepth 100000 in
set_option maxHeartbeats 4000000 in
theorem TW (l r c:Int) (w:World) (h:vc l r c):
  Calls Tryz.prog 299 #[.agg #[.int .i64 l,.int .i64 r,.int .i64 c]] w fun e w'=>e= .returned (GZ l r c)/\Below w.heap.size w w':=by
 have hl:l=0\/l=1\/l=2\/l=3:=by unfold vc at h;omega
 have hb:0<=r/\r<=15/\0<=c/\c<=15:=by unfold vc at h;omega
 obtain ⟨r0,r1,c0,c1⟩:=hb
 have b1:=uJ l r r0 (by omega)
 have b2:=uJ l (r+1) (by omega) (by omega)
 have b3:=uJ l c c0 (by omega)
 have b4:=uJ l (c+1) (by omega) (by omega)
 have E1:=b6 fun w=>lL r l w hl r0 (by omega)
 have E2:=b6 fun w=>lL (r+1) l w hl (by omega) (by omega)
 have E3:=b6 fun w=>lL c l w hl c0 (by omega)
 have E4:=b6 fun w=>lL (c+1) l w hl (by omega) (by omega)
 unfold GZ
 generalize bH r l=e1 at*
 generalize bH (r+1) l=e2 at*
 generalize bH c l=e3 at*
 generalize bH (c+1) l=e4 at*
 clear hl h
 have k1:IntKind.i64.wrap (r+1)=r+1:=by rw [IntKind.wrap_i64];omega
 have k2:IntKind.i64.wrap (c+1)=c+1:=by rw [IntKind.wrap_i64];omega
 have k3:IntKind.i64.wrap (e1-5400000)=e1-5400000:=by rw [IntKind.wrap_i64];omega
 have k4:IntKind.i64.wrap (e2-5400000)=e2-5400000:=by rw [IntKind.wrap_i64];omega
 have k5:IntKind.i64.wrap (e3-10800000)=e3-10800000:=by rw [IntKind.wrap_i64];omega
 have k6:IntKind.i64.wrap (e4-10800000)=e4-10800000:=by rw [IntKind.wrap_i64];omega
 go_enter Tryz.func299,Tryz.ntmps299
 go_wp2
 refine CQ 29 (by kernel_rfl) (by kernel_rfl) ?_
 simp only [List.take_succ_cons,List.take_zero,List.drop_succ_cons,List.drop_zero]
 repeat still_step
 still_call (lE (E1.out _))
 repeat still_step
 still_call (lE (E2.out _))
 repeat still_step
 still_call (lE (E3.out _))
 repeat still_step
 still_call (lE (E4.out _))
 repeat still_step
 refine wpStill_nil ?_
 go_wp2
 exact bodyPost_ret (v:= .agg #[.int .i64 (e1-5400000),.int .i64 (e2-5400000),.int .i64 (e3-10800000),.int .i64 (e4-10800000)]) (by first|(simp only [results,Tryz.results299];go_simp;done)|simp [results,Tryz.results299,go_sem, *]) rfl ⟨rfl,bv⟩
theorem V9 {P:Program} {t:TypeId} {z:Value} {s b:Nat} (h:(P.info? t).map (fun i=>(i.zero,i.size,i.bytes))=some (some z,s,b)):∃i,P.info? t=some i/\i.zero=some z/\i.size=s/\i.bytes=b:=by
 cases hi:P.info? t with
 |none=>rw [hi] at h;cases h
 |some i=>rw [hi] at h;simp at h;exact ⟨i,rfl,h.1,h.2.1,h.2.2⟩
theorem AU:(Tryz.prog.info? 180).map (fun i=>(i.zero,i.size,i.bytes))=some (some (.agg #[.int .i64 0,.int .i64 0,.int .i64 0]),3,24):=by kernel_rfl
theorem IW (w:World) (x y z:Value) (t:Nat):∀(j:Nat) u,([x,y,z]:List Value)[j]? =some u->(w.alloc (Obj.cells #[x,y,z] t)).cell? ((⟨w.heap.size,0,none⟩:Addr).add j)=some u:=by
 intro j u h
 match j,h with
 |0,h=>simp at h;subst h;simp [Addr.add,go_sem]
 |1,h=>simp at h;subst h;simp [Addr.add,go_sem]
 |2,h=>simp at h;subst h;simp [Addr.add,go_sem]
 |n+3,h=>simp at h
theorem PK (a b c:Int):∀u∈([.int .i64 a,.int .i64 b,.int .i64 c]:List Value),u.oneCell'=true:=by
 intro u hu
 simp at hu
 rcases hu with rfl|rfl|rfl<;>rfl
def aA:List (Int×Int×Int)->List Value
 |[]=>[]
 |x :: l=> .int .i64 x.1 :: .int .i64 x.2.1 :: .int .i64 x.2.2 :: aA l
theorem QM (l:List (Int×Int×Int)):(aA l).length=l.length*3:=by
 induction l with
 |nil=>rfl
 |cons x l ih=>simp [aA,ih];omega
theorem QB (l k:List (Int×Int×Int)):aA (l++k)=aA l++aA k:=by
 induction l with
 |nil=>rfl
 |cons x l ih=>simp [aA,ih]
theorem VT (l:List (Int×Int×Int)):∀{i:Nat} {x:Int×Int×Int},l[i]? =some x->(aA l)[i*3]? =some (.int .i64 x.1)/\(aA l)[i*3+1]? =some (.int .i64 x.2.1)/\(aA l)[i*3+2]? =some (.int .i64 x.2.2):=by
 induction l with
 |nil=>intro i x h;simp at h
 |cons y l ih=>
  intro i x h
  cases i with
  |zero=>simp at h;subst h;simp [aA]
  |succ i=>
   have:=ih (i:=i) (x:=x) (by simpa using h)
   rw [Nat.succ_mul]
   simpa [aA] using this
theorem WG (l r c:Int) (w:World) (h:vc l r c):
  Calls Tryz.prog 259 #[.agg #[.int .i64 l,.int .i64 r,.int .i64 c]] w fun e w'=>e= .returned (.tuple #[GZ l r c,.int .i64 0])/\Below w.heap.size w w':=by
 have V:=b6 fun w=>nJ l r c w h
 have B:=b6 fun w=>TW l r c w h
 unfold GZ at*
 generalize bH r l-5400000=e1 at*
 generalize bH (r+1) l-5400000=e2 at*
 generalize bH c l-10800000=e3 at*
 generalize bH (c+1) l-10800000=e4 at*
 go_enter Tryz.func259,Tryz.ntmps259
 go_wp2_with (first|(go_at_call 264;((with_reducible refine am (V.out _) ?_);intro w' hb);replace hb:=mU;obtain ⟨hcell,hfroz,hz,_⟩:=mB;obtain ⟨w1,rfl⟩:=nm w')|(go_at_call 299;((with_reducible refine am (B.out _) ?_);intro w' hb);replace hb:=mU;obtain ⟨hcell,hfroz,hz,_⟩:=mB;obtain ⟨w2,rfl⟩:=nm w'))
 exact bodyPost_ret (v:= .tuple #[.agg #[.int .i64 e1,.int .i64 e2,.int .i64 e3,.int .i64 e4],.int .i64 0]) (by first|(simp only [results,Tryz.results259];go_simp;done)|simp [results,Tryz.results259,go_sem, *]) rfl ⟨rfl,bw⟩
theorem rF (l r c:Int) (w:World) (h:vc l r c):
  Calls Tryz.prog 204 #[.agg #[.int .i64 l,.int .i64 r,.int .i64 c]] w fun e w'=>e= .returned (GZ l r c)/\Below w.heap.size w w':=by
 have B:=b6 fun w=>WG l r c w h
 unfold GZ at*
 generalize bH r l-5400000=e1 at*
 generalize bH (r+1) l-5400000=e2 at*
 generalize bH c l-10800000=e3 at*
 generalize bH (c+1) l-10800000=e4 at*
 go_enter Tryz.func204,Tryz.ntmps204
 go_wp2_with (go_at_call 259;((with_reducible refine am (B.out _) ?_);intro w' hb);replace hb:=mU;obtain ⟨hcell,hfroz,hz,_⟩:=mB;obtain ⟨w1,rfl⟩:=nm w')
 exact bodyPost_ret (v:= .agg #[.int .i64 e1,.int .i64 e2,.int .i64 e3,.int .i64 e4]) (by first|(simp only [results,Tryz.results204];go_simp;done)|simp [results,Tryz.results204,go_sem, *]) rfl ⟨rfl,bw⟩
theorem qW {w:World} {b0 base:Nat} {e:TypeId} {size:Nat} {v:Value} {n:Nat} {xs:List Value} (hb:b0<=base) (h:w.ownsRow base e size v n xs):w.ownsRow b0 e size v n xs:=by
 refine ⟨h.1,?_⟩
 rcases h.2 with h|⟨g,cap,cur,h1,h2,h3,h4⟩
 ·exact Or.inl h
 ·exact Or.inr ⟨g,cap,cur,h1,Nat.le_trans hb h2,h3,h4⟩
theorem XQ {w wr w1:World} {e:TypeId} {v:Value} {k:Nat} {xs:List Value} {o:Obj} (hb:Below w.heap.size w wr) (hown:wr.ownsRow w.heap.size e 3 v k xs) (hg:(wr.alloc o).grownBy w1 v.ownBlock):Below w.heap.size w w1:=
 Below.grown (cH hb o) hg (cH hb o).size (fun j hj=>(hown.lt j hj).1)
def dU (l r c:Int):List (Int×Int×Int):=[(l+1,2*r,2*c),(l+1,2*r,2*c+1),(l+1,2*r+1,2*c),(l+1,2*r+1,2*c+1)]
set_option maxRecDepth 100000 in
set_option maxHeartbeats 4000000 in
theorem wT (l r c:Int) (w:World) (h:vc l r c) (hl:l<=2):
  Calls Tryz.prog 208 #[.agg #[.int .i64 l,.int .i64 r,.int .i64 c]] w fun e w'=>∃v,e= .returned (.tuple #[v,.int .i64 0])/\w'.ownsRow w.heap.size 180 3 v 4 (aA (dU l r c))/\Below w.heap.size w w':=by
 have V:=b6 fun w=>nJ l r c w h
 have hb0:0<=l/\0<=r/\r<=15/\0<=c/\c<=15:=by unfold vc at h;omega
 obtain ⟨l0,r0,r1,c0,c1⟩:=hb0
 have n16:(l==16)=false:=by simp;omega
 clear h
 obtain ⟨i0,hi,hz0,hz1,hz2⟩:=V9 AU
 go_enter Tryz.func208,Tryz.ntmps208
 go_wp2_with (go_at_call 264;((with_reducible refine am (V.out _) ?_);intro w' hb);replace hb:=mU;obtain ⟨hcell,hfroz,hz,_⟩:=mB;obtain ⟨w1,rfl⟩:=nm w')
 go_loopw [4,14] (fun v iv wr=>∃k:Nat,iv= .int .i64 k/\k<=4/\wr.ownsRow w1.heap.size 180 3 v k (aA ((dU l r c).take k))/\Below w1.heap.size w1 wr) (fun _ iv _=>(8-(intOf iv).toNat))
 case atStart=>exact ⟨0,rfl,by decide,World.ownsRow_nil _ _ _ _,Below.refl _ _⟩
 case round=>
  obtain ⟨k,rfl,k4,hown,hB⟩:=hrel
  have hzB:=hB.size
  have C0:wr.cell? ⟨w.heap.size,0,none⟩=some (.int .i64 l):=cell_later hB (by simp [go_sem, *])
  have C1:wr.cell? ⟨w.heap.size,1,none⟩=some (.int .i64 r):=cell_later hB (by simp [go_sem, *])
  have C2:wr.cell? ⟨w.heap.size,2,none⟩=some (.int .i64 c):=cell_later hB (by simp [go_sem, *])
  by_cases hk:k<4
  ·have hk4:k=0\/k=1\/k=2\/k=3:=by omega
   rcases hk4 with rfl|rfl|rfl|rfl
   ·go_wp2_with (at_builtin;refine wpList_append_own_at _ rfl _ _ 92 rfl w1.heap.size 180 i0 (.agg #[.int .i64 0,.int .i64 0,.int .i64 0]) 3 24 Tryz.underlying92 hi hz0 hz1 hz2 rfl (by decide) _ 0 _ rfl (hown.alloc _) ⟨wr.heap.size,0,none⟩ 1 1 [.int .i64 (l+1),.int .i64 (2*r),.int .i64 (2*c)] rfl rfl (IW _ _ _ _ _) (PK _ _ _) (by decide) (by decide) (by simp;omega) ?_;intro v' w' hown' hg _ _)
    go_wp2
    go_roundw
    case rel=>exact ⟨1,rfl,by decide,hown',XQ hB hown hg⟩
    case measure=>simp [intOf]
   ·go_wp2_with (at_builtin;refine wpList_append_own_at _ rfl _ _ 92 rfl w1.heap.size 180 i0 (.agg #[.int .i64 0,.int .i64 0,.int .i64 0]) 3 24 Tryz.underlying92 hi hz0 hz1 hz2 rfl (by decide) _ 1 _ rfl (hown.alloc _) ⟨wr.heap.size,0,none⟩ 1 1 [.int .i64 (l+1),.int .i64 (2*r),.int .i64 (2*c+1)] rfl rfl (IW _ _ _ _ _) (PK _ _ _) (by decide) (by decide) (by simp;omega) ?_;intro v' w' hown' hg _ _)
    go_wp2
    go_roundw
    case rel=>exact ⟨2,rfl,by decide,hown',XQ hB hown hg⟩
    case measure=>simp [intOf]
   ·go_wp2_with (at_builtin;refine wpList_append_own_at _ rfl _ _ 92 rfl w1.heap.size 180 i0 (.agg #[.int .i64 0,.int .i64 0,.int .i64 0]) 3 24 Tryz.underlying92 hi hz0 hz1 hz2 rfl (by decide) _ 2 _ rfl (hown.alloc _) ⟨wr.heap.size,0,none⟩ 1 1 [.int .i64 (l+1),.int .i64 (2*r+1),.int .i64 (2*c)] rfl rfl (IW _ _ _ _ _) (PK _ _ _) (by decide) (by decide) (by simp;omega) ?_;intro v' w' hown' hg _ _)
    go_wp2
    go_roundw
    case rel=>exact ⟨3,rfl,by decide,hown',XQ hB hown hg⟩
    case measure=>simp [intOf]
   ·go_wp2_with (at_builtin;refine wpList_append_own_at _ rfl _ _ 92 rfl w1.heap.size 180 i0 (.agg #[.int .i64 0,.int .i64 0,.int .i64 0]) 3 24 Tryz.underlying92 hi hz0 hz1 hz2 rfl (by decide) _ 3 _ rfl (hown.alloc _) ⟨wr.heap.size,0,none⟩ 1 1 [.int .i64 (l+1),.int .i64 (2*r+1),.int .i64 (2*c+1)] rfl rfl (IW _ _ _ _ _) (PK _ _ _) (by decide) (by decide) (by simp;omega) ?_;intro v' w' hown' hg _ _)
    go_wp2
    go_roundw
    case rel=>exact ⟨4,rfl,by decide,hown',XQ hB hown hg⟩
    case measure=>simp [intOf]
  ·obtain rfl:k=4:=by omega
   go_wp2
   exact bodyPost_ret (v:= .tuple #[u4,.int .i64 0]) (by simp [results,Tryz.results208,go_sem, *]) rfl ⟨u4,rfl,qW (by omega) hown,bw⟩
theorem zM (w:World):
  Calls Tryz.prog 297 #[] w fun e w'=>e= .returned (.agg #[.int .i64 (-10800000),.int .i64 10800000])/\Below w.heap.size w w':=by
 go_enter Tryz.func297,Tryz.ntmps297
 go_wp2
 exact bodyPost_ret (v:= .agg #[.int .i64 (-10800000),.int .i64 10800000]) (by first|(simp only [results,Tryz.results297];go_simp;done)|simp [results,Tryz.results297,go_sem, *]) rfl ⟨rfl,bw⟩
theorem iH (a b:Int) (w:World) (h:¬(a= -10800000/\b=10800000)):
  Calls Tryz.prog 252 #[.agg #[.int .i64 a,.int .i64 b]] w fun e w'=>e= .returned (.bool false)/\Below w.heap.size w w':=by
 have E:=b6 zM
 have q1:=fun w=>oR a b (-10800000) 10800000 w
 have q2:=GW .eql
 rw [show (a== -10800000&&b==10800000)=false by simpa using h] at q1
 clear h
 go_enter Tryz.func252,Tryz.ntmps252
 go_wp2
 refine wp_region_quiet_below (by kernel_rfl) (by kernel_rfl) ?_
 repeat (first|go_big_quiet_step ((go_at_call 297;(with_reducible exact Calls.regrown_of (E.out _))))|quiet_step ((go_at_call 297;(with_reducible exact Calls.regrown_of (E.out _)))))
 refine wpQuiet_nil ?_;intro w' hw';have hb:=i8 hw';clear hw';replace hb:=mU;obtain ⟨hcell,hfroz,hz,_⟩:=mB
 go_wp2
 go_ret
 exact ⟨rfl,bw⟩
theorem XL (a b:Int) (w:World) (h1:a<=b) (h2: -5400000<=a) (h3:b<=5400000):
  Calls Tryz.prog 191 #[.agg #[.int .i64 a,.int .i64 b]] w fun e w'=>e= .returned (.bool true)/\Below w.heap.size w w':=by
 go_enter Tryz.func191,Tryz.ntmps191
 go_wp2
 go_ret
 exact ⟨rfl,bw⟩
theorem a0G (a b:Int) (w:World) (h:¬(a= -10800000/\b=10800000)) (h1:a<=b) (h2: -10800000<=a) (h3:a<10800000) (h4:b-a<21600000):
  Calls Tryz.prog 192 #[.agg #[.int .i64 a,.int .i64 b]] w fun e w'=>e= .returned (.bool true)/\Below w.heap.size w w':=by
 have A:=b6 fun w=>iH a b w h
 clear h
 go_enter Tryz.func192,Tryz.ntmps192
 go_wp2_with (go_at_call 252;((with_reducible refine am (A.out _) ?_);intro w' hb);replace hb:=mU;obtain ⟨hcell,hfroz,hz,_⟩:=mB;obtain ⟨w1,rfl⟩:=nm w')
 go_ret
 exact ⟨rfl,bw⟩
theorem O5 (a b c d:Int) (w:World) (h:¬(c= -10800000/\d=10800000)) (l1:a<=b) (l2: -5400000<=a) (l3:b<=5400000) (h1:c<=d) (h2: -10800000<=c) (h3:c<10800000) (h4:d-c<21600000):
  Calls Tryz.prog 111 #[.agg #[.int .i64 a,.int .i64 b,.int .i64 c,.int .i64 d]] w fun e w'=>e= .returned (.bool true)/\Below w.heap.size w w':=by
 have A:=b6 fun w=>XL a b w l1 l2 l3
 have B:=b6 fun w=>a0G c d w h h1 h2 h3 h4
 clear h
 go_enter Tryz.func111,Tryz.ntmps111
 go_wp2_with (first|(go_at_call 191;((with_reducible refine am (A.out _) ?_);intro w' hb);replace hb:=mU;obtain ⟨hcell,hfroz,hz,_⟩:=mB;obtain ⟨w1,rfl⟩:=nm w')|(go_at_call 192;((with_reducible refine am (B.out _) ?_);intro w' hb);replace hb:=mU;obtain ⟨hcell,hfroz,hz,_⟩:=mB;obtain ⟨w2,rfl⟩:=nm w'))
 go_ret
 exact ⟨rfl,bw⟩
theorem fI (a b n f:Int) (w:World) (h1: -9000000000000000000<=n-a) (h2:n-a<=9000000000000000000) (hf:(n-a)%21600000=f):
  Calls Tryz.prog 302 #[.agg #[.int .i64 a,.int .i64 b],.int .i64 n] w fun e w'=>e= .returned (.int .i64 f)/\Below w.heap.size w w':=by
 have W:=b6 fun w=>(by have:=eD (n-a) w (by omega) (by omega);rw [hf] at this;exact this:Calls Tryz.prog 56 #[.int .i64 (n-a)] w fun e w'=>e= .returned (.int .i64 f)/\w=w')
 clear hf
 go_enter Tryz.func302,Tryz.ntmps302
 go_wp2_with (go_at_call 56;((with_reducible refine am (W.out _) ?_);rintro w' rfl))
 go_ret
 exact ⟨rfl,bw⟩
theorem HG:(Tryz.prog.info? 23).map (fun i=>(i.zero,i.size,i.bytes))=some (some (.agg #[.int .i64 0,.int .i64 0]),2,16):=by kernel_rfl
theorem wB (w:World) (x y:Value) (t:Nat):∀(j:Nat) u,([x,y]:List Value)[j]? =some u->(w.alloc (Obj.cells #[x,y] t)).cell? ((⟨w.heap.size,0,none⟩:Addr).add j)=some u:=by
 intro j u h
 match j,h with
 |0,h=>simp at h;subst h;simp [Addr.add,go_sem]
 |1,h=>simp at h;subst h;simp [Addr.add,go_sem]
 |n+2,h=>simp at h
theorem EB (a b:Int):∀u∈([.int .i64 a,.int .i64 b]:List Value),u.oneCell'=true:=by
 intro u hu
 simp at hu
 rcases hu with rfl|rfl<;>rfl
theorem UG (x y:Int) (w:World):(Instr.index 261 (.agg #[.int .i64 x,.int .i64 y]) (.int .i64 0)).run Tryz.prog w= .ok (.int .i64 x) w:=by kernel_rfl
theorem TQ (x y:Int) (w:World):(Instr.index 261 (.agg #[.int .i64 x,.int .i64 y]) (.int .i64 1)).run Tryz.prog w= .ok (.int .i64 y) w:=by kernel_rfl
theorem G1 {w w':World} {base:Nat} {e:TypeId} {size:Nat} {v:Value} {n:Nat} {xs:List Value} (hb:Below w.heap.size w w') (h:w.ownsRow base e size v n xs):w'.ownsRow base e size v n xs:=by
 refine ⟨h.1,?_⟩
 rcases h.2 with h|⟨g,cap,cur,h1,h2,h3,h4⟩
 ·exact Or.inl h
 ·have hg:g<w.heap.size:=by
   rcases Nat.lt_or_ge g w.heap.size with k|k
   ·exact k
   ·rw [Array.getElem?_eq_none k] at h3;cases h3
  exact Or.inr ⟨g,cap,cur,h1,h2,(hb.block g hg).trans h3,h4⟩
theorem XG {w wr w1:World} {e:TypeId} {size:Nat} {v:Value} {k:Nat} {xs:List Value} {o:Obj} (hb:Below w.heap.size w wr) (hown:wr.ownsRow w.heap.size e size v k xs) (hg:(wr.alloc o).grownBy w1 v.ownBlock):Below w.heap.size w w1:=
 Below.grown (cH hb o) hg (cH hb o).size (fun j hj=>(hown.lt j hj).1)
end Go.Proofs.YtdhbeoahpfimbaaGreat
