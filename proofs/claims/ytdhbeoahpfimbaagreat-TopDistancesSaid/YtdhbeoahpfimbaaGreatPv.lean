/- Part of the proof of TopDistances. -/
import Derived.Test.YtdhbeoahpfimbaaGreatTg
import Derived.Test.YtdhbeoahpfimbaaGreatArcV
import Derived.Test.YtdhbeoahpfimbaaGreatBea
namespace Go.Proofs.YtdhbeoahpfimbaaGreat
open Go.RowKit
def fX (f:Int->Bool):Nat->Int->Int->Int
 |0,lo,_=>lo
 |n+1,lo,hi=>if 1<hi-lo then (if f ((lo+hi)/2) then fX f n ((lo+hi)/2) hi else fX f n lo ((lo+hi)/2)) else lo
def jV (v m:Int):Bool:=decide (U6 (T6 m) (T8 m) v<=0)
def M8 (v:Int):Int:=fX (jV v) 24 (-5400000) 5400001
theorem VR {f:Int->Bool} {k:Nat} {lo hi:Int} (h:hi-lo<=1):fX f k lo hi=lo:=by
 cases k with
 |zero=>rfl
 |succ k=>unfold fX;rw [if_neg (by omega)]
theorem wK (f:Int->Bool):∀(k:Nat) (lo hi:Int),lo<=hi->lo<=fX f k lo hi/\fX f k lo hi<=hi:=by
 intro k
 induction k with
 |zero=>intro lo hi h;exact ⟨Int.le_refl _,h⟩
 |succ k ih=>
  intro lo hi h
  unfold fX
  split
  ·split
   ·have:=ih ((lo+hi)/2) hi (by omega);omega
   ·have:=ih lo ((lo+hi)/2) (by omega);omega
  ·omega
theorem kX (v:Int): -5400000<=M8 v/\M8 v<=5400001:=wK _ _ _ _ (by decide)
set_option maxRecDepth 100000 in
set_option maxHeartbeats 4000000 in
theorem wS (v:Int) (w:World) (_v0: -1073741824<=v) (_v1:v<=1073741824):
  Calls Tryz.prog 258 #[.int .i64 v] w fun e w'=>e= .returned (.int .i64 (M8 v))/\Below w.heap.size w w':=by
 have HB:=b6 (fun m w=>NS m v w)
 obtain ⟨R,hR⟩:∃R,M8 v=R:=⟨_,rfl⟩
 rw [hR]
 have HR:=b6 hR
 clear hR
 go_enter Tryz.func258,Tryz.ntmps258
 go_wp2
 go_loopw [3,4] (fun lv hv wr=>∃(k:Nat) (lo hi:Int),lv= .int .i64 lo/\hv= .int .i64 hi/\ -5400000<=lo/\hi<=5400001/\lo<hi/\Hid (hi-lo<=2^k)/\Hid (fX (jV v) k lo hi=R)/\Below w.heap.size w wr) (fun lv hv _=>(intOf hv-intOf lv).toNat)
 case atStart=>exact ⟨24,_,_,rfl,rfl,by decide,by decide,by decide,by unfold Hid;decide,HR,Below.refl _ _⟩
 case round=>
  obtain ⟨k,lo,hi,rfl,rfl,l0,h1,lh,hk,hs,hV⟩:=hrel
  by_cases hc:1<hi-lo
  ·have k1:∃k2,k=k2+1:=by
    cases k with
    |zero=>have:=hk.out;simp at this;omega
    |succ k=>exact ⟨k,rfl⟩
   obtain ⟨k2,rfl⟩:=k1
   have hk2:=hk.out
   have hp:(2:Int)^(k2+1)=2^k2*2:=Int.pow_succ _ _
   rw [hp] at hk2
   have hs2:=hs.out
   unfold fX at hs2
   rw [if_pos hc] at hs2
   have HS:=b6 hs2
   have B:=b6 fun w=>HB.out ((lo+hi)/2) w
   have q1:decide ((1:Int)<hi-lo)=true:=by simp;omega
   have HK:=b6 hk2
   obtain ⟨M,hM⟩:∃M,(lo+hi)/2=M:=⟨_,rfl⟩
   have m0:lo<M:=by omega
   have m1:M<hi:=by omega
   have m2:M-lo<=hi-M:=by omega
   have m3:hi-M<=M-lo+1:=by omega
   rw [hM] at B HS
   clear hk hs hs2 hk2 hp
   cases hr:jV v M with
   |true=>
    have hb2:decide (U6 (T6 M) (T8 M) v<=0)=true:=hr
    rw [hr] at HS
    generalize U6 (T6 M) (T8 M) v=X at*
    have hx:X<=0:=by simpa using hb2
    go_wp2_with (go_at_call 298;((with_reducible refine am (B.out _) ?_);intro w' hb);replace hb:=mU;obtain ⟨hcell,hfroz,hz,_⟩:=mB;obtain ⟨w1,rfl⟩:=nm w')
    exact ⟨⟨k2,M,hi,rfl,rfl,by omega,h1,m1,by have:=HK.out;unfold Hid;omega,by simpa [Hid] using HS.out,bw⟩,by simp [intOf];omega⟩
   |false=>
    have hb2:decide (U6 (T6 M) (T8 M) v<=0)=false:=hr
    rw [hr] at HS
    generalize U6 (T6 M) (T8 M) v=X at*
    have hx:¬X<=0:=by simpa using hb2
    go_wp2_with (go_at_call 298;((with_reducible refine am (B.out _) ?_);intro w' hb);replace hb:=mU;obtain ⟨hcell,hfroz,hz,_⟩:=mB;obtain ⟨w1,rfl⟩:=nm w')
    exact ⟨⟨k2,lo,M,rfl,rfl,l0,by omega,m0,by have:=HK.out;unfold Hid;omega,by simpa [Hid] using HS.out,bw⟩,by simp [intOf];omega⟩
  ·have q1:decide ((1:Int)<hi-lo)=false:=by simp;omega
   have e:=hs.out
   rw [VR (by omega)] at e
   subst e
   go_wp2
   exact bodyPost_ret (v:= .int .i64 lo) (by first|(simp only [results,Tryz.results258];go_simp;done)|simp [results,Tryz.results258,go_sem, *]) rfl ⟨rfl,bw⟩
open Go.RowKit Brg
def Y7 (xl xh yl yh:Int):Bool:=decide (xl<=0/\0<=xh/\yl<=0/\0<=yh)
def P8 (yl yh xl xh:Int):Int:=if Y7 xl xh yl yh=true then 0 else M7 cK sK (B9 xl xh yl yh).1 (B9 xl xh yl yh).2
def W5 (yl yh xl xh:Int):Int:=if Y7 xl xh yl yh=true then 21600000 else jW cK sK xl xh yl yh+(if N5 cK sK (D6 xl xh yl yh).1 (D6 xl xh yl yh).2 then 0 else 1)
theorem jE {yl yh xl xh:Int} (h:Y7 xl xh yl yh=true):P8 yl yh xl xh=0:=if_pos h
theorem iU {yl yh xl xh:Int} (h:Y7 xl xh yl yh=true):W5 yl yh xl xh=21600000:=if_pos h
theorem lF {yl yh xl xh:Int} (h:¬Y7 xl xh yl yh=true):P8 yl yh xl xh=M7 cK sK (B9 xl xh yl yh).1 (B9 xl xh yl yh).2:=if_neg h
theorem lD {yl yh xl xh:Int} (h:¬Y7 xl xh yl yh=true):W5 yl yh xl xh=jW cK sK xl xh yl yh+(if N5 cK sK (D6 xl xh yl yh).1 (D6 xl xh yl yh).2 then 0 else 1):=if_neg h
theorem VF (C S:Nat->Nat) (px py:Int) (w:World) (a0: -2147483648<=px) (a1:px<=2147483648) (b0: -2147483648<=py) (b1:py<=2147483648) (hz:¬(px=0/\py=0)) (hC:C=cK) (hS:S=sK):
  Calls Tryz.prog 131 #[.agg #[.int .i64 px,.int .i64 py]] w fun e w'=>e= .returned (.tuple #[.int .i64 (M7 C S px py),.bool (N5 C S px py)])/\Below w.heap.size w w':=
 MQ C S px py w a0 a1 b0 b1 hz (b6 fun u v k w u0 u1 v0 v1 k0 k1=>by rw [hC,hS];exact DV u v k w u0 u1 v0 v1 k0 k1)
theorem uX (C S:Nat->Nat) (hC:C=cK) (hS:S=sK) (yl yh xl xh:Int) (w:World) (h1:x8 yl yh=true) (h2:x8 xl xh=true) (ho:¬(xl<=0/\0<=xh/\yl<=0/\0<=yh)):
  Calls Tryz.prog 47 #[.agg #[.int .i64 yl,.int .i64 yh],.agg #[.int .i64 xl,.int .i64 xh]] w fun e w'=>e= .returned (.tuple #[.agg #[.int .i64 (M7 C S (B9 xl xh yl yh).1 (B9 xl xh yl yh).2),.int .i64 (jW C S xl xh yl yh+(if N5 C S (D6 xl xh yl yh).1 (D6 xl xh yl yh).2 then 0 else 1))],.int .i64 0])/\Below w.heap.size w w':=
 zH C S yl yh xl xh w h1 h2 ho (b6 fun px py w a0 a1 b0 b1 hz=>VF C S px py w a0 a1 b0 b1 hz hC hS)
theorem gI (yl yh xl xh:Int) (w:World) (h1:x8 yl yh=true) (h2:x8 xl xh=true):
  Calls Tryz.prog 47 #[.agg #[.int .i64 yl,.int .i64 yh],.agg #[.int .i64 xl,.int .i64 xh]] w fun e w'=>e= .returned (.tuple #[.agg #[.int .i64 (P8 yl yh xl xh),.int .i64 (W5 yl yh xl xh)],.int .i64 0])/\Below w.heap.size w w':=by
 by_cases ho:xl<=0/\0<=xh/\yl<=0/\0<=yh
 ·have e:Y7 xl xh yl yh=true:=decide_eq_true ho
  have h:=yU yl yh xl xh w h1 h2 ho
  rw [jE e,iU e]
  exact h
 ·have e:¬Y7 xl xh yl yh=true:=by unfold Y7;simpa using ho
  have h:=uX cK sK rfl rfl yl yh xl xh w h1 h2 ho
  rw [lF e,lD e]
  exact h
theorem JI {yl yh xl xh s t dx dy:Int} (hx:xl<=xh) (hy:yl<=yh) (ho:Y7 xl xh yl yh=false) (hs:0<s) (ht:0<t) (h1:s*xl<=t*dx) (h2:t*dx<=s*xh) (h3:s*yl<=t*dy) (h4:t*dy<=s*yh):
  (M7 cK sK dx dy-P8 yl yh xl xh)%21600000<=W5 yl yh xl xh-P8 yl yh xl xh:=by
 have ho2:¬(xl<=0/\0<=xh/\yl<=0/\0<=yh):=by unfold Y7 at ho;simpa using ho
 have h:=ZN cK sK hx hy ho2 hs ht h1 h2 h3 h4
 have e:¬Y7 xl xh yl yh=true:=by rw [ho];decide
 rw [lF e,lD e]
 generalize M7 cK sK dx dy=A at*
 generalize M7 cK sK (B9 xl xh yl yh).1 (B9 xl xh yl yh).2=B at*
 generalize jW cK sK xl xh yl yh=E at*
 split<;>omega
theorem UF (yl yh xl xh:Int):0<=P8 yl yh xl xh/\P8 yl yh xl xh<=21600000/\P8 yl yh xl xh<=W5 yl yh xl xh/\W5 yl yh xl xh<=43200001:=by
 cases ho:Y7 xl xh yl yh
 ·have e:¬Y7 xl xh yl yh=true:=by rw [ho];decide
  have a:=eZ cK sK (B9 xl xh yl yh).1 (B9 xl xh yl yh).2
  have b:=eZ cK sK (D6 xl xh yl yh).1 (D6 xl xh yl yh).2
  rw [lF e,lD e]
  unfold jW
  generalize M7 cK sK (B9 xl xh yl yh).1 (B9 xl xh yl yh).2=A at*
  generalize M7 cK sK (D6 xl xh yl yh).1 (D6 xl xh yl yh).2=B at*
  repeat' split
  all_goals omega
 ·rw [jE ho,iU ho]
  decide
set_option maxHeartbeats 1000000 in
theorem AX (a b lo hi:Int) (w:World):
  Calls Tryz.prog 153 #[.agg #[.int .i64 a,.int .i64 b],.int .i64 lo,.int .i64 hi] w fun e w'=>e= .returned (.tuple #[.agg #[.int .i64 (max a lo),.int .i64 (min b hi)],.bool (decide (max a lo<=min b hi))])/\Below w.heap.size w w':=by
 obtain ⟨x,hx⟩:∃x,max a lo=x:=⟨_,rfl⟩
 obtain ⟨y,hy⟩:∃y,min b hi=y:=⟨_,rfl⟩
 rw [hx,hy]
 go_enter Tryz.func153,Tryz.ntmps153
 go_upto_region 2 with fail
 refine m9 ?_
 intro w' hb
 replace hb:=mU;obtain ⟨hcell,hfroz,hz,_⟩:=mB
 have p0:=cq w' w.heap.size 0 x
 have p1:=cq w' w.heap.size 1 y
 have r0:=cq w' (w.heap.size+1) 0 0
 have r1:=cq w' (w.heap.size+1) 1 0
 have rf:∀o,w'.frozen? ⟨w.heap.size+1,o,none⟩=false:=by intro o;simp [go_sem, *]
 have hw0:Below w.heap.size w w':=bw
 clear hcell hfroz hz hb hx hy
 obtain ⟨V0,rfl⟩:=nm w'
 have g1:w.heap.size+1<V0.heap.size:=World.block_lt_of_cell? _ _ r0
 have g0:w.heap.size<V0.heap.size:=by omega
 go_region
 go_wp2
 exact bodyPost_ret (v:= .tuple #[.agg #[.int .i64 x,.int .i64 y],.bool (decide (x<=y))]) (by first|(simp only [results,Tryz.results153];go_simp;done)|simp [results,Tryz.results153,go_sem, *]) rfl ⟨rfl,bw⟩
set_option maxRecDepth 100000 in
set_option maxHeartbeats 4000000 in
theorem OL (a b x y p q:Int) (w:World) (_hp: -5400001<=p) (_hq:p<=5400001) (hq0: -5400001<=q) (hq1:q<=5400001) (hy0: -1073741824<=y) (hy1:y<=1073741824) (_hxy:x<=y)
  (V:CB 129 #[.agg #[.int .i64 a,.int .i64 b]] (.bool true))
  (P:CB 153 #[.agg #[.int .i64 a,.int .i64 b],.int .i64 (-1073741824),.int .i64 1073741824] (.tuple #[.agg #[.int .i64 x,.int .i64 y],.bool true]))
  (A:CB 258 #[.int .i64 x] (.int .i64 p))
  (B:CB 258 #[.int .i64 (-y)] (.int .i64 q)):
  Calls Tryz.prog 203 #[.agg #[.int .i64 a,.int .i64 b]] w fun e w'=>e= .returned (.tuple #[.agg #[.int .i64 p,.int .i64 (-q)],.int .i64 0])/\Below w.heap.size w w':=by
 have kw:IntKind.i64.wrap (-y)= -y:=by rw [IntKind.wrap_i64];omega
 have kq:IntKind.i64.wrap (-q)= -q:=by rw [IntKind.wrap_i64];omega
 go_enter Tryz.func203,Tryz.ntmps203
 go_upto_region 6 with (first|(go_at_call 129;((with_reducible refine am (V.out _) ?_);intro w' hb);replace hb:=mU;obtain ⟨hcell,hfroz,hz,_⟩:=mB;obtain ⟨w1,rfl⟩:=nm w')|(go_at_call 153;((with_reducible refine am (P.out _) ?_);intro w' hb);replace hb:=mU;obtain ⟨hcell,hfroz,hz,_⟩:=mB;obtain ⟨w2,rfl⟩:=nm w'))
 refine m9 ?_
 intro w' hb
 replace hb:=mU;obtain ⟨hcell,hfroz,hz,_⟩:=mB
 have p0:=cq w' w.heap.size 0 x
 have p1:=cq w' w.heap.size 1 y
 have r0:=cq w' (w.heap.size+1) 0 0
 have r1:=cq w' (w.heap.size+1) 1 0
 have rf:∀o,w'.frozen? ⟨w.heap.size+1,o,none⟩=false:=by intro o;simp [go_sem, *]
 have hw0:Below w.heap.size w w':=bw
 clear hcell hfroz hz hb
 obtain ⟨V0,rfl⟩:=nm w'
 have g1:w.heap.size+1<V0.heap.size:=World.block_lt_of_cell? _ _ r0
 have g0:w.heap.size<V0.heap.size:=by omega
 refine n9 9 (by kernel_rfl) (by kernel_rfl) ?_
 simp only [List.take_succ_cons,List.take_zero,List.drop_succ_cons,List.drop_zero]
 repeat (first|go_big_quiet_step ((first|(go_at_call 258;(with_reducible exact Calls.regrown_of (A.out _)))|(go_at_call 258;(with_reducible exact Calls.regrown_of (B.out _)))))|quiet_step ((first|(go_at_call 258;(with_reducible exact Calls.regrown_of (A.out _)))|(go_at_call 258;(with_reducible exact Calls.regrown_of (B.out _))))))
 refine wpQuiet_nil ?_;intro w' hw';have hb:=i8 hw';clear hw';replace hb:=mU;obtain ⟨hcell,hfroz,hz,_⟩:=mB
 go_wp2
 exact bodyPost_ret (v:= .tuple #[.agg #[.int .i64 p,.int .i64 (-q)],.int .i64 0]) (by first|(simp only [results,Tryz.results203];go_simp;done)|simp [results,Tryz.results203,go_sem, *]) rfl ⟨rfl,bw⟩
def cW (a:Int):Int:=M8 (max a (-1073741824))
def cT (b:Int):Int:= -M8 (-(min b 1073741824))
theorem KD (a b:Int) (w:World) (h:x8 a b=true) (ha:a<=1073741824) (hb: -1073741824<=b):
  Calls Tryz.prog 203 #[.agg #[.int .i64 a,.int .i64 b]] w fun e w'=>e= .returned (.tuple #[.agg #[.int .i64 (cW a),.int .i64 (cT b)],.int .i64 0])/\Below w.heap.size w w':=by
 have t:=K6 h
 have x0:=kX (max a (-1073741824))
 have x1:=kX (-(min b 1073741824))
 have V:=b6 fun w=>(by have:=D7 a b w;rw [h] at this;exact this:Calls Tryz.prog 129 #[.agg #[.int .i64 a,.int .i64 b]] w fun e w'=>e= .returned (.bool true)/\Below w.heap.size w w')
 have P:=b6 fun w=>(by have:=AX a b (-1073741824) 1073741824 w;rw [decide_eq_true (show max a (-1073741824)<=min b 1073741824 by omega)] at this;exact this:Calls Tryz.prog 153 #[.agg #[.int .i64 a,.int .i64 b],.int .i64 (-1073741824),.int .i64 1073741824] w fun e w'=>e= .returned (.tuple #[.agg #[.int .i64 (max a (-1073741824)),.int .i64 (min b 1073741824)],.bool true])/\Below w.heap.size w w')
 unfold cW cT
 exact OL a b _ _ _ _ w (by omega) (by omega) (by omega) (by omega) (by omega) (by omega) (by omega) V P (b6 fun w=>wS _ w (by omega) (by omega)) (b6 fun w=>wS _ w (by omega) (by omega))
theorem KG (a:Int): -5400001<=cW a/\cW a<=5400001:=by
 have x0:=kX (max a (-1073741824))
 unfold cW;omega
theorem IZ (a:Int): -5400001<=cT a/\cT a<=5400001:=by
 have x0:=kX (-(min a 1073741824))
 unfold cT;omega
theorem JD (a b:Int) (w:World) (h:x8 a b=true) (ha:a<=1073741824) (hb: -1073741824<=b):
  Calls Tryz.prog 154 #[.agg #[.int .i64 a,.int .i64 b]] w fun e w'=>e= .returned (.tuple #[.agg #[.int .i64 (5400000-cT b),.int .i64 (5400000-cW a)],.int .i64 0])/\Below w.heap.size w w':=by
 have A:=b6 fun w=>KD a b w h ha hb
 have y0:=KG a
 have y1:=IZ b
 generalize cW a=p at*
 generalize cT b=q at*
 go_enter Tryz.func154,Tryz.ntmps154
 go_wp2_with (go_at_call 203;((with_reducible refine am (A.out _) ?_);intro w' hb);replace hb:=mU;obtain ⟨hcell,hfroz,hz,_⟩:=mB;obtain ⟨w1,rfl⟩:=nm w')
 exact bodyPost_ret (v:= .tuple #[.agg #[.int .i64 (5400000-q),.int .i64 (5400000-p)],.int .i64 0]) (by first|(simp only [results,Tryz.results154];go_simp;done)|simp [results,Tryz.results154,go_sem, *]) rfl ⟨rfl,bw⟩
set_option maxRecDepth 100000 in
set_option maxHeartbeats 4000000 in
theorem MC (a b x y p q:Int) (w:World) (hx:0<=x) (hy:y<=1073741824) (hxy:x<=y)
  (V:CB 129 #[.agg #[.int .i64 a,.int .i64 b]] (.bool true))
  (P:CB 153 #[.agg #[.int .i64 a,.int .i64 b],.int .i64 0,.int .i64 1073741824] (.tuple #[.agg #[.int .i64 x,.int .i64 y],.bool true]))
  (A:CB 154 #[.agg #[.int .i64 (1073741824-2*y),.int .i64 (1073741824-2*x)]] (.tuple #[.agg #[.int .i64 p,.int .i64 q],.int .i64 0])):
  Calls Tryz.prog 79 #[.agg #[.int .i64 a,.int .i64 b]] w fun e w'=>e= .returned (.tuple #[.agg #[.int .i64 p,.int .i64 q],.int .i64 0])/\Below w.heap.size w w':=by
 go_enter Tryz.func79,Tryz.ntmps79
 go_wp2_with (first|(go_at_call 129;((with_reducible refine am (V.out _) ?_);intro w' hb);replace hb:=mU;obtain ⟨hcell,hfroz,hz,_⟩:=mB;obtain ⟨w1,rfl⟩:=nm w')|(go_at_call 153;((with_reducible refine am (P.out _) ?_);intro w' hb);replace hb:=mU;obtain ⟨hcell,hfroz,hz,_⟩:=mB;obtain ⟨w2,rfl⟩:=nm w')|(go_at_call 154;((with_reducible refine am (A.out _) ?_);intro w' hb);replace hb:=mU;obtain ⟨hcell,hfroz,hz,_⟩:=mB;obtain ⟨w3,rfl⟩:=nm w'))
 exact bodyPost_ret (v:= .tuple #[.agg #[.int .i64 p,.int .i64 q],.int .i64 0]) (by first|(simp only [results,Tryz.results79];go_simp;done)|simp [results,Tryz.results79,go_sem, *]) rfl ⟨rfl,bw⟩
def Y5 (a:Int):Int:=5400000-cT (1073741824-2*max a 0)
def fH (b:Int):Int:=5400000-cW (1073741824-2*min b 1073741824)
theorem a0k (a b:Int) (w:World) (h:x8 a b=true) (ha:a<=1073741824) (hb:0<=b):
  Calls Tryz.prog 79 #[.agg #[.int .i64 a,.int .i64 b]] w fun e w'=>e= .returned (.tuple #[.agg #[.int .i64 (Y5 a),.int .i64 (fH b)],.int .i64 0])/\Below w.heap.size w w':=by
 have t:=K6 h
 have V:=b6 fun w=>(by have:=D7 a b w;rw [h] at this;exact this:Calls Tryz.prog 129 #[.agg #[.int .i64 a,.int .i64 b]] w fun e w'=>e= .returned (.bool true)/\Below w.heap.size w w')
 have P:=b6 fun w=>(by have:=AX a b 0 1073741824 w;rw [decide_eq_true (show max a 0<=min b 1073741824 by omega)] at this;exact this:Calls Tryz.prog 153 #[.agg #[.int .i64 a,.int .i64 b],.int .i64 0,.int .i64 1073741824] w fun e w'=>e= .returned (.tuple #[.agg #[.int .i64 (max a 0),.int .i64 (min b 1073741824)],.bool true])/\Below w.heap.size w w')
 exact MC a b _ _ _ _ w (by omega) (by omega) (by omega) V P (b6 fun w=>JD _ _ w (J3 (by omega)) (by omega) (by omega))
end Go.Proofs.YtdhbeoahpfimbaaGreat
