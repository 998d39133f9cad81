/- Part of the proof of TopDistances. -/
import Derived.Test.YtdhbeoahpfimbaaGreatWd
namespace Go.Proofs.YtdhbeoahpfimbaaGreat
open Go.RowKit
def x8 (lo hi:Int):Bool:=decide (-2147483648<=lo)&&decide (lo<=hi)&&decide (hi<=2147483648)
theorem K6 {lo hi:Int} (h:x8 lo hi=true): -2147483648<=lo/\lo<=hi/\hi<=2147483648:=by simp [x8] at h;omega
theorem J3 {lo hi:Int} (h: -2147483648<=lo/\lo<=hi/\hi<=2147483648):x8 lo hi=true:=by simp [x8];omega
theorem qJ {lo hi:Int} (h:¬(-2147483648<=lo/\lo<=hi/\hi<=2147483648)):x8 lo hi=false:=by simp [x8];omega
set_option maxHeartbeats 400000 in
theorem D7 (a b:Int) (w:World):
  Calls Tryz.prog 129 #[.agg #[.int .i64 a,.int .i64 b]] w fun e w'=>e= .returned (.bool (x8 a b))/\Below w.heap.size w w':=by
 by_cases h1: -2147483648<=a
 ·by_cases h2:a<=b
  ·by_cases h3:b<=2147483648
   ·have H:=b6 (J3 ⟨h1,h2,h3⟩)
    go_enter Tryz.func129,Tryz.ntmps129
    go_wp2
    go_ret
    exact ⟨by rw [H.out];rfl,bv⟩
   ·have H:=b6 (qJ (lo:=a) (hi:=b) (by omega))
    go_enter Tryz.func129,Tryz.ntmps129
    go_wp2
    go_ret
    exact ⟨by rw [H.out];rfl,bv⟩
  ·have H:=b6 (qJ (lo:=a) (hi:=b) (by omega))
   go_enter Tryz.func129,Tryz.ntmps129
   go_wp2
   go_ret
   exact ⟨by rw [H.out];rfl,bv⟩
 ·have H:=b6 (qJ (lo:=a) (hi:=b) (by omega))
  go_enter Tryz.func129,Tryz.ntmps129
  go_wp2
  go_ret
  exact ⟨by rw [H.out];rfl,bv⟩
set_option maxHeartbeats 400000 in
theorem H9 (a b c d:Int) (w:World):
  Calls Tryz.prog 135 #[.agg #[.int .i64 a,.int .i64 b],.agg #[.int .i64 c,.int .i64 d]] w fun e w'=>e= .returned (.bool (x8 a b&&x8 c d))/\Below w.heap.size w w':=by
 cases h1:x8 a b<;>cases h2:x8 c d
 all_goals
   go_enter Tryz.func135,Tryz.ntmps135
   go_wp2_with (go_at_call 129;refine am (D7 _ _ _) ?_;intro w' hb;replace hb:=mU;obtain ⟨hcell,hfroz,hz,_⟩:=mB)
   go_ret
   exact ⟨rfl,bv⟩
theorem iX (a b:Int) (w:World) (h:x8 a b=true):
  Calls Tryz.prog 132 #[.int .i64 a,.int .i64 b] w fun e w'=>e= .returned (.tuple #[.agg #[.int .i64 a,.int .i64 b],.int .i64 0])/\Below w.heap.size w w':=by
 go_enter Tryz.func132,Tryz.ntmps132
 go_wp2_with (go_at_call 129;refine am (D7 _ _ _) ?_;intro w' hb;replace hb:=mU;obtain ⟨hcell,hfroz,hz,_⟩:=mB)
 exact bodyPost_ret (v:= .tuple #[.agg #[.int .i64 a,.int .i64 b],.int .i64 0]) (by first|(simp only [results,Tryz.results132];go_simp;done)|simp [results,Tryz.results132,go_sem, *]) rfl ⟨rfl,bv⟩
theorem pC (a b:Int) (w:World) (h:x8 a b=false):
  Calls Tryz.prog 132 #[.int .i64 a,.int .i64 b] w fun e w'=>e= .returned (.tuple #[.agg #[.int .i64 0,.int .i64 0],.int .i64 5])/\Below w.heap.size w w':=by
 go_enter Tryz.func132,Tryz.ntmps132
 go_wp2_with (go_at_call 129;refine am (D7 _ _ _) ?_;intro w' hb;replace hb:=mU;obtain ⟨hcell,hfroz,hz,_⟩:=mB)
 exact bodyPost_ret (v:= .tuple #[.agg #[.int .i64 0,.int .i64 0],.int .i64 5]) (by first|(simp only [results,Tryz.results132];go_simp;done)|simp [results,Tryz.results132,go_sem, *]) rfl ⟨rfl,bv⟩
def kN (a b:Int):Value:=if x8 a b=true then .tuple #[.agg #[.int .i64 a,.int .i64 b],.int .i64 0] else .tuple #[.agg #[.int .i64 0,.int .i64 0],.int .i64 5]
theorem fG {a b:Int} (h:x8 a b=true):kN a b= .tuple #[.agg #[.int .i64 a,.int .i64 b],.int .i64 0]:=if_pos h
theorem oU {a b:Int} (h:x8 a b=false):kN a b= .tuple #[.agg #[.int .i64 0,.int .i64 0],.int .i64 5]:=by simp [kN,h]
theorem AV (a b:Int) (w:World):
  Calls Tryz.prog 132 #[.int .i64 a,.int .i64 b] w fun e w'=>e= .returned (kN a b)/\Below w.heap.size w w':=by
 cases h:x8 a b
 ·rw [oU h];exact pC a b w h
 ·rw [fG h];exact iX a b w h
theorem VU (n d:Int):n.tdiv d=if (decide (n<0) != decide (d<0))=true then -(o8 n/o8 d) else o8 n/o8 d:=by
 unfold o8
 by_cases hn:n<0<;>by_cases hd:d<0
 ·have h:n.tdiv d=(-n).tdiv (-d):=by rw [Int.neg_tdiv,Int.tdiv_neg,Int.neg_neg]
  simp only [hn,hd,h,if_true,decide_true,bne_self_eq_false,Bool.false_eq_true,if_false]
  exact Int.tdiv_eq_ediv_of_nonneg (by omega)
 ·have h:n.tdiv d= -((-n).tdiv d):=by rw [Int.neg_tdiv,Int.neg_neg]
  simp only [hn,hd,h,if_true,decide_true,decide_false,Bool.true_bne,Bool.not_false,if_false]
  rw [Int.tdiv_eq_ediv_of_nonneg (by omega)]
 ·have h:n.tdiv d= -(n.tdiv (-d)):=by rw [Int.tdiv_neg,Int.neg_neg]
  simp only [hn,hd,h,if_true,decide_true,decide_false,Bool.false_bne,if_false]
  rw [Int.tdiv_eq_ediv_of_nonneg (by omega)]
 ·simp only [hn,hd,decide_false,bne_self_eq_false,Bool.false_eq_true,if_false]
  exact Int.tdiv_eq_ediv_of_nonneg (by omega)
theorem UX (n d:Int):n.tmod d=if n<0 then -(o8 n%o8 d) else o8 n%o8 d:=by
 have e:n.tmod d=n.tmod (o8 d):=by
   unfold o8;split;· rw [Int.tmod_neg]
   ·rfl
 rw [e]
 by_cases hn:n<0
 ·have e2:o8 n= -n:=by unfold o8;rw [if_pos hn]
  have h:n.tmod (o8 d)= -((-n).tmod (o8 d)):=by rw [Int.neg_tmod,Int.neg_neg]
  rw [if_pos hn,h,e2,Int.tmod_eq_emod_of_nonneg (by omega)]
 ·have e2:o8 n=n:=by unfold o8;rw [if_neg hn]
  rw [if_neg hn,e2,Int.tmod_eq_emod_of_nonneg (by omega)]
theorem uZ (n d:Int) (hd:d≠0) (h0: -4611686018427387904<=n) (h1:n<=4611686018427387904):
  -4611686018427387905<=fl n d/\fl n d<=4611686018427387904/\((n.tmod d=0/\n.tdiv d=fl n d)\/(n.tmod d≠0/\decide (n<0)=decide (d<0)/\n.tdiv d=fl n d)\/(n.tmod d≠0/\decide (n<0)= !decide (d<0)/\n.tdiv d=fl n d+1)):=by
 have t:=VU n d
 have m:=UX n d
 have f:=uP n d hd
 have a0:=G4 n
 have a1:o8 n<=4611686018427387904:=by unfold o8;split<;>omega
 have D0:0<o8 d:=by unfold o8;split<;>omega
 have r0:=Int.emod_nonneg (o8 n) (Int.ne_of_gt D0)
 have q0:0<=o8 n/o8 d:=Int.ediv_nonneg a0 (by omega)
 have q1:o8 n/o8 d<=o8 n:=Int.ediv_le_self _ a0
 generalize o8 n/o8 d=Q at*
 generalize o8 n%o8 d=R at*
 generalize fl n d=f0 at*
 generalize n.tdiv d=t0 at*
 generalize n.tmod d=m0 at*
 cases hn:decide (n<0)<;>cases hd2:decide (d<0)<;>simp only [hn,hd2,Bool.true_bne,Bool.false_bne,Bool.not_true,Bool.not_false,Bool.false_eq_true,if_false,if_true,and_false,false_or,or_false,reduceCtorEq,true_and,false_and] at t f ⊢<;>(first|have hn:=of_decide_eq_true hn|have hn:=of_decide_eq_false hn)<;>(first|rw [if_pos hn] at m|rw [if_neg hn] at m)<;>(try split at f)<;>omega
set_option maxHeartbeats 400000 in
theorem U5 (n d:Int) (w:World) (hd:d≠0) (h0: -4611686018427387904<=n) (h1:n<=4611686018427387904) (_d0: -9223372036854775808<=d) (_d1:d<=9223372036854775807):
  Calls Tryz.prog 133 #[.int .i64 n,.int .i64 d] w fun e w'=>e= .returned (.int .i64 (fl n d))/\w=w':=by
 obtain ⟨k0,k1,⟨a,b⟩|⟨a,b,c⟩|⟨a,b,c⟩⟩:=uZ n d hd h0 h1
 ·go_enter Tryz.func133,Tryz.ntmps133
  go_wp2
  go_ret
  exact ⟨rfl,rfl⟩
 ·obtain ⟨sd,hsd⟩:∃sd,decide (d<0)=sd:=⟨_,rfl⟩
  rw [hsd] at b
  cases sd
  all_goals
     go_enter Tryz.func133,Tryz.ntmps133
     go_wp2
     go_ret
     exact ⟨rfl,rfl⟩
 ·obtain ⟨sd,hsd⟩:∃sd,decide (d<0)=sd:=⟨_,rfl⟩
  rw [hsd] at b
  have e:Hid (fl n d+1-1=fl n d):=by unfold Hid;omega
  cases sd
  all_goals
     go_enter Tryz.func133,Tryz.ntmps133
     go_wp2
     go_ret
     exact ⟨by first|rfl|exact N3 (by omega),rfl⟩
theorem aW (n d:Int) (w:World) (hd:d≠0) (h0: -4611686018427387904<=n) (h1:n<=4611686018427387904) (d0: -9223372036854775808<=d) (d1:d<=9223372036854775807):
  Calls Tryz.prog 134 #[.int .i64 n,.int .i64 d] w fun e w'=>e= .returned (.int .i64 (ce n d))/\w=w':=by
 have k:=uZ (-n) d hd (by omega) (by omega)
 have k0:=k.1
 have k1:=k.2.1
 clear k
 have e:Hid (-(fl (-n) d)=ce n d):=rfl
 go_enter Tryz.func134,Tryz.ntmps134
 go_wp2_with (go_at_call 133;refine am (U5 _ _ _ (by omega) (by omega) (by omega) (by omega) (by omega)) ?_;rintro w' rfl)
 go_ret
 exact ⟨N3 e.out,rfl⟩
def P6 (lo hi:Int):Bool:=decide (lo<=0)&&decide (0<=hi)
theorem IR {lo hi:Int} (h:P6 lo hi=false):0<lo\/hi<0:=by
 by_cases a:lo<=0
 ·by_cases b:0<=hi
  ·simp [P6,a,b] at h
  ·omega
 ·omega
theorem xW {lo hi:Int} (h:lo<=0/\0<=hi):P6 lo hi=true:=by simp [P6];omega
theorem iQ {lo hi:Int} (h:¬(lo<=0/\0<=hi)):P6 lo hi=false:=by simp [P6];omega
theorem U8 (a b:Int) (w:World):
  Calls Tryz.prog 254 #[.agg #[.int .i64 a,.int .i64 b]] w fun e w'=>e= .returned (.bool (P6 a b))/\Below w.heap.size w w':=by
 by_cases h1:a<=0
 ·by_cases h2:0<=b
  ·have H:=b6 (xW ⟨h1,h2⟩)
   go_enter Tryz.func254,Tryz.ntmps254
   go_wp2
   go_ret
   exact ⟨by rw [H.out];rfl,bv⟩
  ·have H:=b6 (iQ (lo:=a) (hi:=b) (by omega))
   go_enter Tryz.func254,Tryz.ntmps254
   go_wp2
   go_ret
   exact ⟨by rw [H.out];rfl,bv⟩
 ·have H:=b6 (iQ (lo:=a) (hi:=b) (by omega))
  go_enter Tryz.func254,Tryz.ntmps254
  go_wp2
  go_ret
  exact ⟨by rw [H.out];rfl,bv⟩
theorem CI (a b d:Int) (w:World) (h:I7 a b=true) (hd:d≠0) (d1: -9223372036854775808<=d) (d2:d<=9223372036854775807):
  Calls Tryz.prog 222 #[.agg #[.int .i64 a,.int .i64 b],.int .i64 d] w fun e w'=>e= .returned (zX (fl (a*1152921504606846976+b) d))/\Below w.heap.size w w':=by
 have V:=fun w=>SY a b d w h hd d1 d2
 generalize fl (a*1152921504606846976+b) d=X at*
 by_cases hf: -9223372036854775808<=X/\X<=9223372036854775807
 ·rw [R9 X hf] at*
  replace V:=b6 V
  go_enter Tryz.func222,Tryz.ntmps222
  go_wp2_with (go_at_call 273;refine am (V.out _) ?_;intro w' hb;replace hb:=mU;obtain ⟨hcell,hfroz,hz,_⟩:=mB)
  go_ret2
  exact ⟨rfl,bv⟩
 ·rw [L3 X hf] at*
  replace V:=b6 V
  go_enter Tryz.func222,Tryz.ntmps222
  go_wp2_with (go_at_call 273;refine am (V.out _) ?_;intro w' hb;replace hb:=mU;obtain ⟨hcell,hfroz,hz,_⟩:=mB)
  go_ret2
  exact ⟨rfl,bv⟩
theorem NW (a b d:Int) (w:World) (h:I7 a b=true) (hd:d≠0) (d1: -9223372036854775808<=d) (d2:d<=9223372036854775807):
  Calls Tryz.prog 223 #[.agg #[.int .i64 a,.int .i64 b],.int .i64 d] w fun e w'=>e= .returned (zX (ce (a*1152921504606846976+b) d))/\Below w.heap.size w w':=by
 have V:=fun w=>a1P a b d w h hd d1 d2
 generalize ce (a*1152921504606846976+b) d=X at*
 by_cases hf: -9223372036854775808<=X/\X<=9223372036854775807
 ·rw [R9 X hf] at*
  replace V:=b6 V
  go_enter Tryz.func223,Tryz.ntmps223
  go_wp2_with (go_at_call 273;refine am (V.out _) ?_;intro w' hb;replace hb:=mU;obtain ⟨hcell,hfroz,hz,_⟩:=mB)
  go_ret2
  exact ⟨rfl,bv⟩
 ·rw [L3 X hf] at*
  replace V:=b6 V
  go_enter Tryz.func223,Tryz.ntmps223
  go_wp2_with (go_at_call 273;refine am (V.out _) ?_;intro w' hb;replace hb:=mU;obtain ⟨hcell,hfroz,hz,_⟩:=mB)
  go_ret2
  exact ⟨rfl,bv⟩
theorem sJ (x n d:Int) (hx0: -9223372036854775808<=x) (hx1:x<=9223372036854775807) (hn0: -9223372036854775808<=n) (hn1:n<=9223372036854775807) (hd:d≠0) (d1: -9223372036854775808<=d) (d2:d<=9223372036854775807)
  (p0: -1267650600228229401496703205376<=x*n) (p1:x*n<=1267650600228229401496703205376):∃a b:Int,
  (∀w,Calls Tryz.prog 221 #[.int .i64 x,.int .i64 n] w fun r w'=>r= .returned (.tuple #[.agg #[.int .i64 a,.int .i64 b],.int .i64 0])/\Below w.heap.size w w')/\
  (∀w,Calls Tryz.prog 222 #[.agg #[.int .i64 a,.int .i64 b],.int .i64 d] w fun e w'=>e= .returned (zX (fl (x*n) d))/\Below w.heap.size w w')/\
  (∀w,Calls Tryz.prog 223 #[.agg #[.int .i64 a,.int .i64 b],.int .i64 d] w fun e w'=>e= .returned (zX (ce (x*n) d))/\Below w.heap.size w w'):=by
 have hv:sW (x*n)=true:=by simp [sW];omega
 have hw:I7 (x*n/1152921504606846976) (x*n%1152921504606846976)=true:=kM (by omega)
 have e:x*n/1152921504606846976*1152921504606846976+x*n%1152921504606846976=x*n:=by omega
 refine ⟨_,_,fun w=>GP x n w hx0 hx1 hn0 hn1 hv,fun w=> ?_,fun w=> ?_⟩
 ·have:=CI _ _ d w hw hd d1 d2
  rw [e] at this;exact this
 ·have:=NW _ _ d w hw hd d1 d2
  rw [e] at this;exact this
theorem kC (x n d L U:Int) (w:World) (hx0: -9223372036854775808<=x) (hx1:x<=9223372036854775807) (hn0: -9223372036854775808<=n) (hn1:n<=9223372036854775807) (hd:d≠0) (d1: -9223372036854775808<=d) (d2:d<=9223372036854775807)
  (p0: -1267650600228229401496703205376<=x*n) (p1:x*n<=1267650600228229401496703205376) (hL:fl (x*n) d=L) (hU:ce (x*n) d=U)
  (fL: -9223372036854775808<=L/\L<=9223372036854775807) (fU: -9223372036854775808<=U/\U<=9223372036854775807):
  Calls Tryz.prog 138 #[.int .i64 x,.int .i64 n,.int .i64 d] w fun e w'=>e= .returned (.tuple #[.int .i64 L,.int .i64 U,.int .i64 0])/\Below w.heap.size w w':=by
 obtain ⟨a,b,P,F,C⟩:=sJ x n d hx0 hx1 hn0 hn1 hd d1 d2 p0 p1
 rw [hL,R9 L fL] at F
 rw [hU,R9 U fU] at C
 replace P:=b6 P
 replace F:=b6 F
 replace C:=b6 C
 clear hL hU p0 p1
 go_enter Tryz.func138,Tryz.ntmps138
 go_wp2_with (first|(go_at_call 221;refine am (P.out _) ?_;intro w' hb;replace hb:=mU;obtain ⟨hcell,hfroz,hz,_⟩:=mB;obtain ⟨w1,rfl⟩:=nm w')|(go_at_call 222;refine am (F.out _) ?_;intro w' hb;replace hb:=mU;obtain ⟨hcell,hfroz,hz,_⟩:=mB;obtain ⟨w2,rfl⟩:=nm w')|(go_at_call 223;refine am (C.out _) ?_;intro w' hb;replace hb:=mU;obtain ⟨hcell,hfroz,hz,_⟩:=mB))
 exact bodyPost_ret (v:= .tuple #[.int .i64 L,.int .i64 U,.int .i64 0]) (by first|(simp only [results,Tryz.results138];go_simp;done)|simp [results,Tryz.results138,go_sem, *]) rfl ⟨rfl,bv⟩
theorem CP (x n d L U:Int) (w:World) (hx0: -9223372036854775808<=x) (hx1:x<=9223372036854775807) (hn0: -9223372036854775808<=n) (hn1:n<=9223372036854775807) (hd:d≠0) (d1: -9223372036854775808<=d) (d2:d<=9223372036854775807)
  (p0: -1267650600228229401496703205376<=x*n) (p1:x*n<=1267650600228229401496703205376) (hL:fl (x*n) d=L) (hU:ce (x*n) d=U)
  (f:¬((-9223372036854775808<=L/\L<=9223372036854775807)/\(-9223372036854775808<=U/\U<=9223372036854775807))):
  Calls Tryz.prog 138 #[.int .i64 x,.int .i64 n,.int .i64 d] w fun e w'=>(∃p q:Int,e= .returned (.tuple #[.int .i64 p,.int .i64 q,.int .i64 5]))/\Below w.heap.size w w':=by
 obtain ⟨a,b,P,F,C⟩:=sJ x n d hx0 hx1 hn0 hn1 hd d1 d2 p0 p1
 rw [hL] at F
 rw [hU] at C
 by_cases fL: -9223372036854775808<=L/\L<=9223372036854775807
 ·have fU:¬(-9223372036854775808<=U/\U<=9223372036854775807):=fun h=>f ⟨fL,h⟩
  rw [R9 L fL] at F
  rw [L3 U fU] at C
  replace P:=b6 P
  replace F:=b6 F
  replace C:=b6 C
  clear hL hU p0 p1 f fU
  go_enter Tryz.func138,Tryz.ntmps138
  go_wp2_with (first|(go_at_call 221;refine am (P.out _) ?_;intro w' hb;replace hb:=mU;obtain ⟨hcell,hfroz,hz,_⟩:=mB;obtain ⟨w1,rfl⟩:=nm w')|(go_at_call 222;refine am (F.out _) ?_;intro w' hb;replace hb:=mU;obtain ⟨hcell,hfroz,hz,_⟩:=mB;obtain ⟨w2,rfl⟩:=nm w')|(go_at_call 223;refine am (C.out _) ?_;intro w' hb;replace hb:=mU;obtain ⟨hcell,hfroz,hz,_⟩:=mB))
  exact bodyPost_ret (v:= .tuple #[.int .i64 L,.int .i64 0,.int .i64 5]) (by first|(simp only [results,Tryz.results138];go_simp;done)|simp [results,Tryz.results138,go_sem, *]) rfl ⟨⟨_,_,rfl⟩,bv⟩
 ·rw [L3 L fL] at F
  replace P:=b6 P
  replace F:=b6 F
  clear hL hU p0 p1 f fL C
  go_enter Tryz.func138,Tryz.ntmps138
  go_wp2_with (first|(go_at_call 221;refine am (P.out _) ?_;intro w' hb;replace hb:=mU;obtain ⟨hcell,hfroz,hz,_⟩:=mB;obtain ⟨w1,rfl⟩:=nm w')|(go_at_call 222;refine am (F.out _) ?_;intro w' hb;replace hb:=mU;obtain ⟨hcell,hfroz,hz,_⟩:=mB;obtain ⟨w2,rfl⟩:=nm w'))
  exact bodyPost_ret (v:= .tuple #[.int .i64 0,.int .i64 0,.int .i64 5]) (by first|(simp only [results,Tryz.results138];go_simp;done)|simp [results,Tryz.results138,go_sem, *]) rfl ⟨⟨_,_,rfl⟩,bv⟩
set_option maxHeartbeats 400000 in
theorem a0x (a b c d:Int) (w:World) (h1:x8 a b=true) (h2:x8 c d=true):
  Calls Tryz.prog 49 #[.agg #[.int .i64 a,.int .i64 b],.agg #[.int .i64 c,.int .i64 d]] w fun e w'=>e= .returned (kN (a+c) (b+d))/\Below w.heap.size w w':=by
 have a0:=K6 h1
 have a1:=a0.1
 have a2:=a0.2.1
 have a3:=a0.2.2
 have c0:=K6 h2
 have c1:=c0.1
 have c2:=c0.2.1
 have c3:=c0.2.2
 clear a0 c0
 have h:(x8 a b&&x8 c d)=true:=by rw [h1,h2];rfl
 clear h1 h2
 cases hf:x8 (a+c) (b+d)
 ·rw [oU hf]
  have FI:=fun w=>pC _ _ w hf
  replace FI:=b6 FI
  clear hf
  go_enter Tryz.func49,Tryz.ntmps49
  go_wp2_with (first|(go_at_call 135;refine am (H9 _ _ _ _ _) ?_;intro w' hb;replace hb:=mU;obtain ⟨hcell,hfroz,hz,_⟩:=mB)|(go_at_call 132;refine am (FI.out _) ?_;intro w' hb;replace hb:=mU;obtain ⟨hcell,hfroz,hz,_⟩:=mB))
  exact bodyPost_ret (v:= .tuple #[.agg #[.int .i64 0,.int .i64 0],.int .i64 5]) (by first|(simp only [results,Tryz.results49];go_simp;done)|simp [results,Tryz.results49,go_sem, *]) rfl ⟨rfl,bv⟩
 ·rw [fG hf]
  have FI:=fun w=>iX _ _ w hf
  replace FI:=b6 FI
  clear hf
  go_enter Tryz.func49,Tryz.ntmps49
  go_wp2_with (first|(go_at_call 135;refine am (H9 _ _ _ _ _) ?_;intro w' hb;replace hb:=mU;obtain ⟨hcell,hfroz,hz,_⟩:=mB)|(go_at_call 132;refine am (FI.out _) ?_;intro w' hb;replace hb:=mU;obtain ⟨hcell,hfroz,hz,_⟩:=mB))
  exact bodyPost_ret (v:= .tuple #[.agg #[.int .i64 (a+c),.int .i64 (b+d)],.int .i64 0]) (by first|(simp only [results,Tryz.results49];go_simp;done)|simp [results,Tryz.results49,go_sem, *]) rfl ⟨rfl,bv⟩
set_option maxHeartbeats 400000 in
theorem ZG (a b c d:Int) (w:World) (h1:x8 a b=true) (h2:x8 c d=true):
  Calls Tryz.prog 224 #[.agg #[.int .i64 a,.int .i64 b],.agg #[.int .i64 c,.int .i64 d]] w fun e w'=>e= .returned (kN (a-d) (b-c))/\Below w.heap.size w w':=by
 have a0:=K6 h1
 have a1:=a0.1
 have a2:=a0.2.1
 have a3:=a0.2.2
 have c0:=K6 h2
 have c1:=c0.1
 have c2:=c0.2.1
 have c3:=c0.2.2
 clear a0 c0
 have h:(x8 a b&&x8 c d)=true:=by rw [h1,h2];rfl
 clear h1 h2
 cases hf:x8 (a-d) (b-c)
 ·rw [oU hf]
  have FI:=fun w=>pC _ _ w hf
  replace FI:=b6 FI
  clear hf
  go_enter Tryz.func224,Tryz.ntmps224
  go_wp2_with (first|(go_at_call 135;refine am (H9 _ _ _ _ _) ?_;intro w' hb;replace hb:=mU;obtain ⟨hcell,hfroz,hz,_⟩:=mB)|(go_at_call 132;refine am (FI.out _) ?_;intro w' hb;replace hb:=mU;obtain ⟨hcell,hfroz,hz,_⟩:=mB))
  exact bodyPost_ret (v:= .tuple #[.agg #[.int .i64 0,.int .i64 0],.int .i64 5]) (by first|(simp only [results,Tryz.results224];go_simp;done)|simp [results,Tryz.results224,go_sem, *]) rfl ⟨rfl,bv⟩
 ·rw [fG hf]
  have FI:=fun w=>iX _ _ w hf
  replace FI:=b6 FI
  clear hf
  go_enter Tryz.func224,Tryz.ntmps224
  go_wp2_with (first|(go_at_call 135;refine am (H9 _ _ _ _ _) ?_;intro w' hb;replace hb:=mU;obtain ⟨hcell,hfroz,hz,_⟩:=mB)|(go_at_call 132;refine am (FI.out _) ?_;intro w' hb;replace hb:=mU;obtain ⟨hcell,hfroz,hz,_⟩:=mB))
  exact bodyPost_ret (v:= .tuple #[.agg #[.int .i64 (a-d),.int .i64 (b-c)],.int .i64 0]) (by first|(simp only [results,Tryz.results224];go_simp;done)|simp [results,Tryz.results224,go_sem, *]) rfl ⟨rfl,bv⟩
set_option maxHeartbeats 400000 in
theorem a0Z (a b:Int) (w:World) (h:x8 a b=true):
  Calls Tryz.prog 274 #[.agg #[.int .i64 a,.int .i64 b]] w fun e w'=>e= .returned (.tuple #[.agg #[.int .i64 (-b),.int .i64 (-a)],.int .i64 0])/\Below w.heap.size w w':=by
 have a0:=K6 h
 have a1:=a0.1
 have a2:=a0.2.1
 have a3:=a0.2.2
 clear a0
 go_enter Tryz.func274,Tryz.ntmps274
 go_wp2_with (go_at_call 129;refine am (D7 _ _ _) ?_;intro w' hb;replace hb:=mU;obtain ⟨hcell,hfroz,hz,_⟩:=mB)
 exact bodyPost_ret (v:= .tuple #[.agg #[.int .i64 (-b),.int .i64 (-a)],.int .i64 0]) (by first|(simp only [results,Tryz.results274];go_simp;done)|simp [results,Tryz.results274,go_sem, *]) rfl ⟨rfl,bv⟩
theorem FY (x y:Int):(if y<x then y else x)=min x y:=by split<;>omega
theorem DB (x y:Int):(if x<y then y else x)=max x y:=by split<;>omega
@[go_sem high] theorem YV {P:Program} (w:World) (ts:Array TypeId) (t:TypeId) (k1 k2 k3 k4:IntKind) (x y z u:Int):
  (Builtin.min_ ts t #[.int k1 x,.int k2 y,.int k3 z,.int k4 u]).run P w= .ok (.int k1 (min (min (min x y) z) u)) w:=by
 rw [<-FY,<-FY (min x y),<-FY x y]
 simp [Builtin.min_,Builtin.min2,go_sem]
@[go_sem high] theorem ZC {P:Program} (w:World) (ts:Array TypeId) (t:TypeId) (k1 k2 k3 k4:IntKind) (x y z u:Int):
  (Builtin.max_ ts t #[.int k1 x,.int k2 y,.int k3 z,.int k4 u]).run P w= .ok (.int k1 (max (max (max x y) z) u)) w:=by
 rw [<-DB,<-DB (max x y),<-DB x y]
 simp [Builtin.max_,Builtin.max2,go_sem]
theorem Y3 {n:Int} (h0: -9223372036854775808<=n) (h1:n<=9223372036854775807):IntKind.i64.wrap n=n:=by rw [IntKind.wrap_i64];omega
theorem iT (x y:Int) (x0: -2147483648<=x) (x1:x<=2147483648) (y0: -2147483648<=y) (y1:y<=2147483648): -4611686018427387904<=x*y/\x*y<=4611686018427387904:=by
 have e:=Int.natAbs_mul x y
 have h:x.natAbs*y.natAbs<=2147483648*2147483648:=Nat.mul_le_mul (by omega) (by omega)
 rw [<-e] at h
 omega
set_option maxHeartbeats 400000 in
theorem a0i (a b c d:Int) (w:World) (h1:x8 a b=true) (h2:x8 c d=true):
  Calls Tryz.prog 150 #[.agg #[.int .i64 a,.int .i64 b],.agg #[.int .i64 c,.int .i64 d]] w fun e w'=>e= .returned (kN (fl (min (a*c) (min (a*d) (min (b*c) (b*d)))) 1073741824) (ce (max (a*c) (max (a*d) (max (b*c) (b*d)))) 1073741824))/\Below w.heap.size w w':=by
 have a0:=K6 h1
 have a1:=a0.1
 have a2:=a0.2.1
 have a3:=a0.2.2
 have c0:=K6 h2
 have c1:=c0.1
 have c2:=c0.2.1
 have c3:=c0.2.2
 clear a0 c0
 have h:(x8 a b&&x8 c d)=true:=by rw [h1,h2];rfl
 clear h1 h2
 obtain ⟨p1,p2⟩:=iT a c (by omega) (by omega) (by omega) (by omega)
 obtain ⟨p3,p4⟩:=iT a d (by omega) (by omega) (by omega) (by omega)
 obtain ⟨p5,p6⟩:=iT b c (by omega) (by omega) (by omega) (by omega)
 obtain ⟨p7,p8⟩:=iT b d (by omega) (by omega) (by omega) (by omega)
 have r1:IntKind.i64.wrap (a*c)=a*c:=Y3 (by omega) (by omega)
 have r2:IntKind.i64.wrap (a*d)=a*d:=Y3 (by omega) (by omega)
 have r3:IntKind.i64.wrap (b*c)=b*c:=Y3 (by omega) (by omega)
 have r4:IntKind.i64.wrap (b*d)=b*d:=Y3 (by omega) (by omega)
 have FA:=fun w=>U5 (min (a*c) (min (a*d) (min (b*c) (b*d)))) 1073741824 w (by omega) (by omega) (by omega) (by omega) (by omega)
 have FB:=fun w=>aW (max (a*c) (max (a*d) (max (b*c) (b*d)))) 1073741824 w (by omega) (by omega) (by omega) (by omega) (by omega)
 generalize fl (min (a*c) (min (a*d) (min (b*c) (b*d)))) 1073741824=X at*
 generalize ce (max (a*c) (max (a*d) (max (b*c) (b*d)))) 1073741824=Y at*
 replace FA:=b6 FA
 replace FB:=b6 FB
 clear p1 p2 p3 p4 p5 p6 p7 p8
 cases hf:x8 (X) (Y)
 ·rw [oU hf]
  have FI:=fun w=>pC _ _ w hf
  replace FI:=b6 FI
  clear hf
  go_enter Tryz.func150,Tryz.ntmps150
  go_wp2_with (go_at_call 135;refine am (H9 _ _ _ _ _) ?_;intro w' hb;replace hb:=mU;obtain ⟨hcell,hfroz,hz,_⟩:=mB)
  go_quiet (fail)
  go_wp2_with (first|(go_at_call 135;refine am (H9 _ _ _ _ _) ?_;intro w' hb;replace hb:=mU;obtain ⟨hcell,hfroz,hz,_⟩:=mB)|(go_at_call 132;refine am (FI.out _) ?_;intro w' hb;replace hb:=mU;obtain ⟨hcell,hfroz,hz,_⟩:=mB)|(go_at_call 133;refine am (FA.out _) ?_;rintro w' rfl)|(go_at_call 134;refine am (FB.out _) ?_;rintro w' rfl))
  exact bodyPost_ret (v:= .tuple #[.agg #[.int .i64 0,.int .i64 0],.int .i64 5]) (by first|(simp only [results,Tryz.results150];go_simp;done)|simp [results,Tryz.results150,go_sem, *]) rfl ⟨rfl,bv⟩
 ·rw [fG hf]
  have FI:=fun w=>iX _ _ w hf
  replace FI:=b6 FI
  clear hf
  go_enter Tryz.func150,Tryz.ntmps150
  go_wp2_with (go_at_call 135;refine am (H9 _ _ _ _ _) ?_;intro w' hb;replace hb:=mU;obtain ⟨hcell,hfroz,hz,_⟩:=mB)
  go_quiet (fail)
  go_wp2_with (first|(go_at_call 135;refine am (H9 _ _ _ _ _) ?_;intro w' hb;replace hb:=mU;obtain ⟨hcell,hfroz,hz,_⟩:=mB)|(go_at_call 132;refine am (FI.out _) ?_;intro w' hb;replace hb:=mU;obtain ⟨hcell,hfroz,hz,_⟩:=mB)|(go_at_call 133;refine am (FA.out _) ?_;rintro w' rfl)|(go_at_call 134;refine am (FB.out _) ?_;rintro w' rfl))
  exact bodyPost_ret (v:= .tuple #[.agg #[.int .i64 X,.int .i64 Y],.int .i64 0]) (by first|(simp only [results,Tryz.results150];go_simp;done)|simp [results,Tryz.results150,go_sem, *]) rfl ⟨rfl,bv⟩
set_option maxHeartbeats 400000 in
theorem a0W (a b c d:Int) (w:World) (h1:x8 a b=true) (h2:x8 c d=true) (hm:max a c<=min b d):
  Calls Tryz.prog 159 #[.agg #[.int .i64 a,.int .i64 b],.agg #[.int .i64 c,.int .i64 d]] w fun e w'=>e= .returned (.tuple #[.agg #[.int .i64 (max a c),.int .i64 (min b d)],.int .i64 0])/\Below w.heap.size w w':=by
 have h:(x8 a b&&x8 c d)=true:=by rw [h1,h2];rfl
 clear h1 h2
 go_enter Tryz.func159,Tryz.ntmps159
 go_wp2_with (go_at_call 135;refine am (H9 _ _ _ _ _) ?_;intro w' hb;replace hb:=mU;obtain ⟨hcell,hfroz,hz,_⟩:=mB)
 exact bodyPost_ret (v:= .tuple #[.agg #[.int .i64 (max a c),.int .i64 (min b d)],.int .i64 0]) (by first|(simp only [results,Tryz.results159];go_simp;done)|simp [results,Tryz.results159,go_sem, *]) rfl ⟨rfl,bv⟩
def rW (a b:Int):Int:=if P6 a b=true then 0 else min (a*a) (b*b)
set_option maxHeartbeats 1000000 in
theorem xZ (a b m X Y:Int) (w:World) (h:x8 a b=true) (hm:m=rW a b) (hX:fl m 1073741824=X) (hY:ce (max (a*a) (b*b)) 1073741824=Y) (r:Value)
  (FI:∀w,Calls Tryz.prog 132 #[.int .i64 X,.int .i64 Y] w fun e w'=>e= .returned r/\Below w.heap.size w w') (hr:∃p q k:Int,r= .tuple #[.agg #[.int .i64 p,.int .i64 q],.int .i64 k]):
  Calls Tryz.prog 48 #[.agg #[.int .i64 a,.int .i64 b]] w fun e w'=>e= .returned r/\Below w.heap.size w w':=by
 obtain ⟨p,q,k,rfl⟩:=hr
 have a0:=K6 h
 have a1:=a0.1
 have a2:=a0.2.1
 have a3:=a0.2.2
 clear a0
 obtain ⟨p1,p2⟩:=iT a a (by omega) (by omega) (by omega) (by omega)
 obtain ⟨p3,p4⟩:=iT b b (by omega) (by omega) (by omega) (by omega)
 have r1:IntKind.i64.wrap (a*a)=a*a:=Y3 (by omega) (by omega)
 have r2:IntKind.i64.wrap (b*b)=b*b:=Y3 (by omega) (by omega)
 have m0: -4611686018427387904<=m/\m<=4611686018427387904:=by rw [hm];unfold rW;split<;>omega
 have FA:=fun w=>U5 m 1073741824 w (by omega) m0.1 m0.2 (by omega) (by omega)
 have FB:=fun w=>aW (max (a*a) (b*b)) 1073741824 w (by omega) (by omega) (by omega) (by omega) (by omega)
 rw [hX] at FA
 rw [hY] at FB
 replace FA:=b6 FA
 replace FB:=b6 FB
 replace FI:=b6 FI
 clear p1 p2 p3 p4 hX hY m0
 by_cases h1:a<=0
 ·by_cases h2:0<=b
  ·have e:m=0:=by rw [hm];simp [rW,xW ⟨h1,h2⟩]
   subst e
   clear hm
   go_enter Tryz.func48,Tryz.ntmps48
   go_wp2_with (go_at_call 129;refine am (D7 _ _ _) ?_;intro w' hb;replace hb:=mU;obtain ⟨hcell,hfroz,hz,_⟩:=mB)
   all_goals skip
   go_quiet (fail)
   go_wp2_with (first|(go_at_call 133;refine am (FA.out _) ?_;rintro w' rfl)|(go_at_call 134;refine am (FB.out _) ?_;rintro w' rfl)|(go_at_call 132;refine am (FI.out _) ?_;intro w' hb;replace hb:=mU;obtain ⟨hcell,hfroz,hz,_⟩:=mB))
   exact bodyPost_ret (v:= .tuple #[.agg #[.int .i64 p,.int .i64 q],.int .i64 k]) (by first|(simp only [results,Tryz.results48];go_simp;done)|simp [results,Tryz.results48,go_sem, *]) rfl ⟨rfl,bv⟩
  ·have e:m=min (a*a) (b*b):=by rw [hm];simp [rW,iQ (lo:=a) (hi:=b) (by omega)]
   subst e
   clear hm
   go_enter Tryz.func48,Tryz.ntmps48
   go_wp2_with (go_at_call 129;refine am (D7 _ _ _) ?_;intro w' hb;replace hb:=mU;obtain ⟨hcell,hfroz,hz,_⟩:=mB)
   go_quiet (fail)
   go_wp2_with (first|(go_at_call 133;refine am (FA.out _) ?_;rintro w' rfl)|(go_at_call 134;refine am (FB.out _) ?_;rintro w' rfl)|(go_at_call 132;refine am (FI.out _) ?_;intro w' hb;replace hb:=mU;obtain ⟨hcell,hfroz,hz,_⟩:=mB))
   exact bodyPost_ret (v:= .tuple #[.agg #[.int .i64 p,.int .i64 q],.int .i64 k]) (by first|(simp only [results,Tryz.results48];go_simp;done)|simp [results,Tryz.results48,go_sem, *]) rfl ⟨rfl,bv⟩
 ·have e:m=min (a*a) (b*b):=by rw [hm];simp [rW,iQ (lo:=a) (hi:=b) (by omega)]
  subst e
  clear hm
  go_enter Tryz.func48,Tryz.ntmps48
  go_wp2_with (go_at_call 129;refine am (D7 _ _ _) ?_;intro w' hb;replace hb:=mU;obtain ⟨hcell,hfroz,hz,_⟩:=mB)
  go_quiet (fail)
  go_wp2_with (first|(go_at_call 133;refine am (FA.out _) ?_;rintro w' rfl)|(go_at_call 134;refine am (FB.out _) ?_;rintro w' rfl)|(go_at_call 132;refine am (FI.out _) ?_;intro w' hb;replace hb:=mU;obtain ⟨hcell,hfroz,hz,_⟩:=mB))
  exact bodyPost_ret (v:= .tuple #[.agg #[.int .i64 p,.int .i64 q],.int .i64 k]) (by first|(simp only [results,Tryz.results48];go_simp;done)|simp [results,Tryz.results48,go_sem, *]) rfl ⟨rfl,bv⟩
theorem tF (a b:Int):∃p q k:Int,kN a b= .tuple #[.agg #[.int .i64 p,.int .i64 q],.int .i64 k]:=by
 unfold kN;split
 ·exact ⟨_,_,_,rfl⟩
 ·exact ⟨_,_,_,rfl⟩
theorem CJ (a b:Int) (w:World) (h:x8 a b=true):
  Calls Tryz.prog 48 #[.agg #[.int .i64 a,.int .i64 b]] w fun e w'=>e= .returned (kN (fl (rW a b) 1073741824) (ce (max (a*a) (b*b)) 1073741824))/\Below w.heap.size w w':=
 xZ a b _ _ _ w h rfl rfl rfl _ (fun w=>AV _ _ w) (tF _ _)
end Go.Proofs.YtdhbeoahpfimbaaGreat
