/- Part of the proof of TopDistances. -/
import Derived.Test.YtdhbeoahpfimbaaGreatCv
import Derived.Test.YtdhbeoahpfimbaaGreatCs
import Derived.Test.YtdhbeoahpfimbaaGreatRu
namespace Go.Proofs.YtdhbeoahpfimbaaGreat
open Go.RowKit
theorem ZX:K9 9000000 9000000=536870912/\K8 9000000 9000000=536870912:=by decide+kernel
theorem b0:K9 0 0=0/\K8 0 0=0:=by decide+kernel
theorem IS:K9 5400000 5400000=1073741824/\K8 5400000 5400000=1073741824:=by decide+kernel
theorem b60:K9 3600000 3600000=929887696/\K8 3600000 3600000=929887697:=by decide+kernel
theorem b91:0<K9 5400000 5460000:=by decide+kernel
theorem a3g:cW 536870912=1800000/\cT 536870912=1800000:=by decide+kernel
theorem a3c:Y5 268435456=3600000/\fH 268435456=3600000:=by decide+kernel
theorem XU:qZ 60000 60000 1073741824 1073741824=60000/\pT 60000 60000 1073741824 1073741824=60000/\qZ 60000 60000 0 0=0/\pT 60000 60000 0 0=0:=by decide
theorem IP:jL 3600000 3600000=268435456/\oG 3600000 3600000=268435456/\jL 0 0=0/\oG 0 0=0:=by decide+kernel
theorem EG {a b x y:Int} (h1:a=x) (h2:b=y) (h:x8 x y=true):kN a b= .tuple #[.agg #[.int .i64 x,.int .i64 y],.int .i64 0]:=by subst h1 h2;exact fG h
theorem dW (a b c d x y:Int) (w:World) (h1:x8 a b=true) (h2:x8 c d=true) (hx:fl (min (a*c) (min (a*d) (min (b*c) (b*d)))) 1073741824=x) (hy:ce (max (a*c) (max (a*d) (max (b*c) (b*d)))) 1073741824=y) (h:x8 x y=true):
  Calls Tryz.prog 150 #[.agg #[.int .i64 a,.int .i64 b],.agg #[.int .i64 c,.int .i64 d]] w fun e w'=>e= .returned (.tuple #[.agg #[.int .i64 x,.int .i64 y],.int .i64 0])/\Below w.heap.size w w':=by
 have:=a0i a b c d w h1 h2
 rw [EG hx hy h] at this
 exact this
theorem vU (a b c d x y:Int) (w:World) (h1:x8 a b=true) (h2:x8 c d=true) (hx:a+c=x) (hy:b+d=y) (h:x8 x y=true):
  Calls Tryz.prog 49 #[.agg #[.int .i64 a,.int .i64 b],.agg #[.int .i64 c,.int .i64 d]] w fun e w'=>e= .returned (.tuple #[.agg #[.int .i64 x,.int .i64 y],.int .i64 0])/\Below w.heap.size w w':=by
 have:=a0x a b c d w h1 h2
 rw [EG hx hy h] at this
 exact this
theorem JS (a b c d x y:Int) (w:World) (h1:x8 a b=true) (h2:x8 c d=true) (hx:a-d=x) (hy:b-c=y) (h:x8 x y=true):
  Calls Tryz.prog 224 #[.agg #[.int .i64 a,.int .i64 b],.agg #[.int .i64 c,.int .i64 d]] w fun e w'=>e= .returned (.tuple #[.agg #[.int .i64 x,.int .i64 y],.int .i64 0])/\Below w.heap.size w w':=by
 have:=ZG a b c d w h1 h2
 rw [EG hx hy h] at this
 exact this
theorem gT (a b x y:Int) (w:World) (h:jI a b=true) (hx:K9 a b=x) (hy:K8 a b=y):
  Calls Tryz.prog 125 #[.agg #[.int .i64 a,.int .i64 b]] w fun e w'=>e= .returned (.tuple #[.agg #[.int .i64 x,.int .i64 y],.int .i64 0])/\Below w.heap.size w w':=by subst hx hy;exact a1p a b w h
theorem dP (a b x y:Int) (w:World) (h:jI a b=true) (hx:K9 (a+5400000) (b+5400000)=x) (hy:K8 (a+5400000) (b+5400000)=y):
  Calls Tryz.prog 124 #[.agg #[.int .i64 a,.int .i64 b]] w fun e w'=>e= .returned (.tuple #[.agg #[.int .i64 x,.int .i64 y],.int .i64 0])/\Below w.heap.size w w':=by subst hx hy;exact FM a b w h
theorem EF (a b x y:Int) (w:World) (h:jI a b=true) (hx:jL a b=x) (hy:oG a b=y):
  Calls Tryz.prog 147 #[.agg #[.int .i64 a,.int .i64 b]] w fun e w'=>e= .returned (.tuple #[.agg #[.int .i64 x,.int .i64 y],.int .i64 0])/\Below w.heap.size w w':=by subst hx hy;exact a15 a b w h
theorem IM (a b x y:Int) (w:World) (h:x8 a b=true) (h1:a<=1073741824) (h2:0<=b) (hx:Y5 a=x) (hy:fH b=y):
  Calls Tryz.prog 79 #[.agg #[.int .i64 a,.int .i64 b]] w fun e w'=>e= .returned (.tuple #[.agg #[.int .i64 x,.int .i64 y],.int .i64 0])/\Below w.heap.size w w':=by subst hx hy;exact a0k a b w h h1 h2
theorem KH (a b x y:Int) (w:World) (h:x8 a b=true) (h1:a<=1073741824) (h2: -1073741824<=b) (hx:cW a=x) (hy:cT b=y):
  Calls Tryz.prog 203 #[.agg #[.int .i64 a,.int .i64 b]] w fun e w'=>e= .returned (.tuple #[.agg #[.int .i64 x,.int .i64 y],.int .i64 0])/\Below w.heap.size w w':=by subst hx hy;exact KD a b w h h1 h2
theorem qA (n x:Int) (w:World) (h0: -9223372036854775808<=n) (h1:n<=9223372036854775807) (hx:aZ n=x):
  Calls Tryz.prog 21 #[.int .i64 n] w fun e w'=>e= .returned (.int .i64 x)/\w=w':=by subst hx;exact cF n w h0 h1
theorem YQ:∃p q:Int,∀w,Calls Tryz.prog 17 #[.agg #[.int .i64 0,.int .i64 0],.agg #[.int .i64 0,.int .i64 3600000]] w fun e w'=>e= .returned (.tuple #[.agg #[.int .i64 p,.int .i64 q,.int .i64 3600000,.int .i64 3600000],.int .i64 0])/\Below w.heap.size w w':=by
 refine ⟨_,_,fun w=>sV 0 0 0 3600000 _ _ 3600000 3600000 w (by decide) (by decide) (by decide) (by decide) (by decide) (by decide) (by decide) (by decide)
  (b6 fun B1 w ok=>lM 0 0 0 3600000 3600000 929887696 929887697 536870912 536870912 1073741824 1073741824 1073741824 1073741824 0 0 0 0 929887696 929887697 0 0 0 0 0 0 0 0 _ _ B1 w ok (by decide) (by decide)
   (b6 fun w=>qA _ _ w (by decide) (by decide) (by decide)) (b6 fun w=>gT _ _ _ _ w (by decide) b60.1 b60.2) (b6 fun w=>dP _ _ _ _ w (by decide) ZX.1 ZX.2) (b6 fun w=>dP _ _ _ _ w (by decide) IS.1 IS.2) (b6 fun w=>dP _ _ _ _ w (by decide) IS.1 IS.2)
   (b6 fun w=>gT _ _ _ _ w (by decide) b0.1 b0.2) (b6 fun w=>gT _ _ _ _ w (by decide) b0.1 b0.2)
   (b6 fun w=>dW _ _ _ _ _ _ w (by decide) (by decide) (by decide) (by decide) (by decide)) (b6 fun w=>dW _ _ _ _ _ _ w (by decide) (by decide) (by decide) (by decide) (by decide)) (b6 fun w=>dW _ _ _ _ _ _ w (by decide) (by decide) (by decide) (by decide) (by decide)) (b6 fun w=>dW _ _ _ _ _ _ w (by decide) (by decide) (by decide) (by decide) (by decide)) (b6 fun w=>JS _ _ _ _ _ _ w (by decide) (by decide) (by decide) (by decide) (by decide))
   (b6 fun w=>gI 929887696 929887697 0 0 w (by decide) (by decide)))
  (b6 fun B1 w ok=>rM 0 0 0 3600000 3600000 1073741824 1073741824 1073741824 1073741824 1073741824 1073741824 268435456 268435456 268435456 268435456 0 0 268435456 268435456 3600000 3600000 B1 w ok (by decide) (by decide) (by decide) (by decide)
   (b6 fun w=>qA _ _ w (by decide) (by decide) (by decide)) (b6 fun w=>dP _ _ _ _ w (by decide) IS.1 IS.2) (b6 fun w=>dP _ _ _ _ w (by decide) IS.1 IS.2)
   (b6 fun w=>dW _ _ _ _ _ _ w (by decide) (by decide) (by decide) (by decide) (by decide)) (b6 fun w=>EF _ _ _ _ w (by decide) IP.1 IP.2.1) (b6 fun w=>dW _ _ _ _ _ _ w (by decide) (by decide) (by decide) (by decide) (by decide)) (b6 fun w=>EF _ _ _ _ w (by decide) IP.2.2.1 IP.2.2.2)
   (b6 fun w=>vU _ _ _ _ _ _ w (by decide) (by decide) (by decide) (by decide) (by decide)) (b6 fun w=>IM _ _ _ _ w (by decide) (by decide) (by decide) a3c.1 a3c.2))⟩
theorem ZD (w:World):Calls Tryz.prog 38 #[.agg #[.int .i64 0,.int .i64 0,.int .i64 0,.int .i64 0,.int .i64 3600000,.int .i64 3600000]] w fun e w'=>e= .returned (.tuple #[.agg #[.int .i64 1800000,.int .i64 1800000],.int .i64 0])/\Below w.heap.size w w':=
 GU 0 0 0 0 3600000 3600000 1800000 1800000 w (b6 fun w=>IT 0 0 0 0 3600000 3600000 w (by decide) (by decide) (by decide) (by decide) (by decide) (by decide) (by decide))
  (b6 fun w=>tZ 0 0 0 0 3600000 3600000 0 0 1073741824 1073741824 0 0 1073741824 1073741824 929887696 929887697 536870912 536870912 0 0 1073741824 1073741824 536870912 536870912 536870912 536870912 1800000 1800000 w
   (b6 fun w=>gT _ _ _ _ w (by decide) b0.1 b0.2) (b6 fun w=>dP _ _ _ _ w (by decide) IS.1 IS.2) (b6 fun w=>gT _ _ _ _ w (by decide) b0.1 b0.2) (b6 fun w=>dP _ _ _ _ w (by decide) IS.1 IS.2) (b6 fun w=>gT _ _ _ _ w (by decide) b60.1 b60.2) (b6 fun w=>dP _ _ _ _ w (by decide) ZX.1 ZX.2)
   (b6 fun w=>dW _ _ _ _ _ _ w (by decide) (by decide) (by decide) (by decide) (by decide)) (b6 fun w=>dW _ _ _ _ _ _ w (by decide) (by decide) (by decide) (by decide) (by decide)) (b6 fun w=>dW _ _ _ _ _ _ w (by decide) (by decide) (by decide) (by decide) (by decide)) (b6 fun w=>vU _ _ _ _ _ _ w (by decide) (by decide) (by decide) (by decide) (by decide))
   (b6 fun w=>KH _ _ _ _ w (by decide) (by decide) (by decide) a3g.1 a3g.2))
theorem WJ (w:World):Calls Tryz.prog 44 #[.agg #[.int .i64 0,.int .i64 0,.int .i64 60000,.int .i64 60000]] w fun e w'=>e= .returned (.tuple #[.agg #[.int .i64 60000,.int .i64 60000],.agg #[.int .i64 0,.int .i64 0],.int .i64 0])/\Below w.heap.size w w':=by
 refine EK 0 0 60000 60000 1073741824 1073741824 0 0 60000 60000 0 0 w (b6 fun w=> ?_) (b6 fun w=>dP _ _ _ _ w (by decide) IS.1 IS.2) (b6 fun w=>gT _ _ _ _ w (by decide) b0.1 b0.2) (b6 fun w=> ?_) (b6 fun w=> ?_)
 ·exact DW 0 0 60000 60000 w
 ·have:=tD 1073741824 1073741824 60000 60000 60000 w (by decide) (by decide) (by decide) (by decide) (by decide) (by decide) (by decide)
  rw [XU.1,XU.2.1] at this
  exact this
 ·have:=tD 0 0 60000 60000 60000 w (by decide) (by decide) (by decide) (by decide) (by decide) (by decide) (by decide)
  rw [XU.2.2.1,XU.2.2.2] at this
  exact this
theorem QY (x y:Int) (w:World) (h:x8 x y=true) (hx:0<x):Calls Tryz.prog 198 #[.agg #[.int .i64 1073741824,.int .i64 1073741824],.agg #[.int .i64 x,.int .i64 y],.int .i64 0] w fun e w'=>e= .returned (.tuple #[.int .i64 0,.int .i64 0,.int .i64 0])/\Below w.heap.size w w':=by
 have t:=K6 h
 have:=UB 1073741824 1073741824 x y 0 w (by decide) h (by decide) (by simp [P6];omega)
 have e1:qLo 1073741824 1073741824 x y 0=0:=by unfold qLo;simp [oV hx,oV (show 0<y by omega)]
 have e2:qHi 1073741824 1073741824 x y 0=0:=by unfold qHi ce;simp [oV hx,oV (show 0<y by omega)]
 rw [e1,e2] at this
 exact this
theorem a0e (w:World):Calls Tryz.prog 114 #[.agg #[.int .i64 0,.int .i64 60000],.agg #[.int .i64 0,.int .i64 0]] w fun e w'=>e= .returned (.tuple #[.agg #[.int .i64 0,.int .i64 0],.int .i64 0])/\Below w.heap.size w w':=by
 have o:x8 (K9 5400000 5460000) (K8 5400000 5460000)=true:=by
  have x:=RY 5400000 5460000
  have b:=rG 5400000
  refine J3 ⟨by omega,?_,by omega⟩
  unfold K9 K8
  repeat' split
  all_goals omega
 have V:CB 45 #[.agg #[.int .i64 0,.int .i64 0]] (.bool true):=b6 fun w=>G7 0 0 w
 refine NE 0 60000 0 0 (K9 5400000 5460000) (K8 5400000 5460000) 0 0 w b91 (b6 fun w=>ZF 0 60000 w (by decide) (by decide) (by decide)) V (b6 fun w=>FM 0 60000 w (by decide)) (b6 fun B1 B2 w g0 g1 g2 g3=> ?_)
 exact GO 1073741824 1073741824 (K9 5400000 5460000) (K8 5400000 5460000) 0 0 0 0 0 0 0 0 B1 B2 w g0 g1 g2 g3
  (b6 fun w k0 k1 k2 k3=>tE _ _ _ _ 0 0 0 B1 B2 w k0 k1 k2 k3 (b6 fun w=>QY _ _ w o b91)) (b6 fun w k0 k1 k2 k3=>tE _ _ _ _ 0 0 0 B1 B2 w k0 k1 k2 k3 (b6 fun w=>QY _ _ w o b91)) rfl rfl V
theorem tC (n:Int) (w:World):
  Calls Tryz.prog 19 #[.int .i64 n] w fun e w'=>e= .returned (.agg #[.int .i64 n,.int .i64 n])/\Below w.heap.size w w':=by
 go_enter Tryz.func19,Tryz.ntmps19
 go_wp2
 exact bodyPost_ret (v:= .agg #[.int .i64 n,.int .i64 n]) (by first|(simp only [results,Tryz.results19];go_simp;done)|simp [results,Tryz.results19,go_sem, *]) rfl ⟨rfl,bw⟩
set_option maxRecDepth 100000 in
set_option maxHeartbeats 8000000 in
theorem wZ (w:World):
  Calls Tryz.prog 6 #[] w fun e w'=>e= .returned (.bool true)/\Below w.heap.size w w':=by
 obtain ⟨p,q,IV⟩:=YQ
 have I:=b6 IV
 have R:=b6 fun B1 w h0 h1 h2 h3=>a2q B1 w h0 h1 h2 h3 (b6 WJ) (b6 a0e)
 have A:=b6 ZD
 have AR:=b6 MB
 have W:=b6 tC
 have q1:=fun w=>oR 3600000 3600000 3600000 3600000 w
 have q2:=fun w=>oR 60000 60000 60000 60000 w
 have q3:=fun w=>oR 1800000 1800000 1800000 1800000 w
 have q4:=GW .eql
 simp only [beq_self_eq_true,Bool.and_self] at q1 q2 q3
 clear IV
 go_enter Tryz.func6,Tryz.ntmps6
 go_upto_region 4 with (first|(go_at_call 17;((with_reducible refine am (I.out _) ?_);intro w' hb);replace hb:=mU;obtain ⟨hcell,hfroz,hz,z6,z7,z8,z9,_⟩:=oH;obtain ⟨w1,rfl⟩:=nm w')|(go_at_call 19;((with_reducible refine am (W.out _ _) ?_);intro w' hb);replace hb:=mU;obtain ⟨hcell,hfroz,hz,z6,z7,z8,z9,_⟩:=oH;obtain ⟨w2,rfl⟩:=nm w')|(go_at_call 37;((with_reducible refine (R.out _ _ ?c0 ?c1 ?c2 ?c3).mono ?_);(case c0=>(simp [go_sem, *];done));(case c1=>(simp [go_sem, *];done));(case c2=>(simp [go_sem, *];done));(case c3=>(simp [go_sem, *];done));rintro e w' ⟨rfl,hb⟩);replace hb:=mU;obtain ⟨hcell,hfroz,hz,z6,z7,z8,z9,_⟩:=oH;obtain ⟨w3,rfl⟩:=nm w')|(go_at_call 38;((with_reducible refine am (A.out _) ?_);intro w' hb);replace hb:=mU;obtain ⟨hcell,hfroz,hz,z6,z7,z8,z9,_⟩:=oH;obtain ⟨w4,rfl⟩:=nm w'))
 go_wp2_with (go_at_call 39;((with_reducible refine (AR.out _).mono ?_);rintro e w' ⟨⟨g,cap,rfl⟩,hb⟩);replace hb:=mU;obtain ⟨hcell,hfroz,hz,z6,z7,z8,z9,_⟩:=oH;obtain ⟨w5,rfl⟩:=nm w')
 (refine m9 ?_;intro w' hb;replace hb:=mU;obtain ⟨hcell,hfroz,hz,z6,z7,z8,z9,_⟩:=oH)
 have hw0:Below w.heap.size w w':=bw
 have a2:=cq w' w1.heap.size 2 3600000
 have a3:=cq w' w1.heap.size 3 3600000
 have b0:=cq w' w3.heap.size 0 60000
 have b1:=cq w' w3.heap.size 1 60000
 have c0:=cq w' w4.heap.size 0 1800000
 have c1:=cq w' w4.heap.size 1 1800000
 clear hcell hfroz hz hb
 obtain ⟨V0,rfl⟩:=nm w'
 have g1:w1.heap.size<V0.heap.size:=World.block_lt_of_cell? _ _ a2
 have g2:w3.heap.size<V0.heap.size:=World.block_lt_of_cell? _ _ b0
 have g3:w4.heap.size<V0.heap.size:=World.block_lt_of_cell? _ _ c0
 generalize w1.heap.size=BA at*
 generalize w3.heap.size=BB at*
 generalize w4.heap.size=BC at*
 refine wp_region_quiet_below (by kernel_rfl) (by kernel_rfl) ?_
 repeat (first|go_big_quiet_step ((go_at_call 19;(with_reducible exact Calls.regrown_of (W.out _ _))))|quiet_step ((go_at_call 19;(with_reducible exact Calls.regrown_of (W.out _ _)))))
 refine wpQuiet_nil ?_;intro w' hw';have hb:=i8 hw';clear hw';replace hb:=mU;obtain ⟨hcell,hfroz,hz,z6,z7,z8,z9,_⟩:=oH
 go_wp2
 go_ret
 exact ⟨rfl,bw⟩
end Go.Proofs.YtdhbeoahpfimbaaGreat
