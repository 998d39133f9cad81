/- Part of the proof of TopDistances. -/
import Derived.Test.YtdhbeoahpfimbaaGreatPw
import Derived.Test.YtdhbeoahpfimbaaGreatTg
import Derived.Test.YtdhbeoahpfimbaaGreatAg
namespace Go.Proofs.YtdhbeoahpfimbaaGreat
open Go.RowKit
def qZ (a b f g:Int):Int:=min (LB f g 1073741824 1073741824 a) (LB f g 1073741824 1073741824 b)
def pT (a b f g:Int):Int:=max (MX f g 1073741824 1073741824 a) (MX f g 1073741824 1073741824 b)
theorem a2u (g h f k:Int):qZ g h f k<=pT g h f k:=by
 have e1:LB f k 1073741824 1073741824 g<=MX f k 1073741824 1073741824 g:=by
  unfold LB MX
  generalize f*g=X
  generalize k*g=Y
  omega
 unfold qZ pT
 omega
theorem a06 {f k n N:Int} (f0: -1073741824<=f) (f1:f<=1073741824) (k0: -1073741824<=k) (k1:k<=1073741824) (n0:0<=n) (n1:n<=N):
  -N<=LB f k 1073741824 1073741824 n/\MX f k 1073741824 1073741824 n<=N:=by
 have a:=Int.mul_le_mul_of_nonneg_right f0 n0
 have b:=Int.mul_le_mul_of_nonneg_right f1 n0
 have c:=Int.mul_le_mul_of_nonneg_right k0 n0
 have d:=Int.mul_le_mul_of_nonneg_right k1 n0
 unfold LB MX
 generalize f*n=X at*
 generalize k*n=Y at*
 omega
theorem a2C {g h f k N:Int} (g0:0<=g) (gh:g<=h) (h1:h<=N) (f0: -1073741824<=f) (f1:f<=1073741824) (k0: -1073741824<=k) (k1:k<=1073741824):
  -N<=qZ g h f k/\pT g h f k<=N:=by
 have a:=a06 f0 f1 k0 k1 g0 (by omega:g<=N)
 have b:=a06 f0 f1 k0 k1 (by omega:0<=h) h1
 unfold qZ pT
 omega
set_option maxHeartbeats 1000000 in
theorem DW (a b g h:Int) (w:World):
  Calls Tryz.prog 43 #[.agg #[.int .i64 a,.int .i64 b,.int .i64 g,.int .i64 h]] w fun e w'=>e= .returned (.bool (P9 a b&&P9 g h&&decide (0<=g)))/\Below w.heap.size w w':=by
 have V1:=b6 fun w=>G7 a b w
 have V2:=b6 fun w=>G7 g h w
 go_enter Tryz.func43,Tryz.ntmps43
 cases h1:P9 a b
 ·rw [h1] at V1
  go_wp2_with (first|(go_at_call 45;((with_reducible refine am (V1.out _) ?_);intro w' hb);replace hb:=mU;obtain ⟨hcell,hfroz,hz,_⟩:=mB)|(go_at_call 45;((with_reducible refine am (V2.out _) ?_);intro w' hb);replace hb:=mU;obtain ⟨hcell,hfroz,hz,_⟩:=mB))
  all_goals go_ret
  all_goals exact ⟨by simp [*],bv⟩
 ·rw [h1] at V1
  cases h2:P9 g h
  ·rw [h2] at V2
   go_wp2_with (first|(go_at_call 45;((with_reducible refine am (V1.out _) ?_);intro w' hb);replace hb:=mU;obtain ⟨hcell,hfroz,hz,_⟩:=mB)|(go_at_call 45;((with_reducible refine am (V2.out _) ?_);intro w' hb);replace hb:=mU;obtain ⟨hcell,hfroz,hz,_⟩:=mB))
   all_goals go_ret
   all_goals exact ⟨by simp [*],bv⟩
  ·rw [h2] at V2
   go_wp2_with (first|(go_at_call 45;((with_reducible refine am (V1.out _) ?_);intro w' hb);replace hb:=mU;obtain ⟨hcell,hfroz,hz,_⟩:=mB)|(go_at_call 45;((with_reducible refine am (V2.out _) ?_);intro w' hb);replace hb:=mU;obtain ⟨hcell,hfroz,hz,_⟩:=mB))
   all_goals go_ret
   all_goals exact ⟨by simp [*],bv⟩
theorem qU (a b n:Int) (B1:Nat) (w:World) (h0:w.cell? ⟨B1,0,none⟩=some (.int .i64 a)) (h1:w.cell? ⟨B1,1,none⟩=some (.int .i64 b)) (hf:x8 a b=true) (hr:F5 n=true):
  Calls Tryz.prog 219 #[.int .i64 n,.pointer (some ⟨B1,0,none⟩)] w fun e w'=>e= .returned (.tuple #[.int .i64 (LB a b 1073741824 1073741824 n),.int .i64 (MX a b 1073741824 1073741824 n),.int .i64 0])/\Below w.heap.size w w':=by
 have S:=b6 fun w=>tX a b n w hf hr
 go_enter Tryz.func219,Tryz.ntmps219
 go_wp2_with (go_at_call 51;((with_reducible refine am (S.out _) ?_);intro w' hb);replace hb:=mU;obtain ⟨hcell,hfroz,hz,_⟩:=mB)
 go_ret3
 exact ⟨rfl,bv⟩
theorem eT {w:World} {B:Nat} (x y:Value) {x0 y0:Value} (h0:w.cell? ⟨B,0,none⟩=some x0) (h1:w.cell? ⟨B,1,none⟩=some y0):
  ((w.setCell ⟨B,0,none⟩ x).setCell ⟨B,1,none⟩ y).cell? ⟨B,0,none⟩=some x/\((w.setCell ⟨B,0,none⟩ x).setCell ⟨B,1,none⟩ y).cell? ⟨B,1,none⟩=some y:=by
 have a:(w.setCell ⟨B,0,none⟩ x).cell? ⟨B,0,none⟩=some x:=by simp [go_sem, *]
 have b:(w.setCell ⟨B,0,none⟩ x).cell? ⟨B,1,none⟩=some y0:=by simp [go_sem, *]
 generalize w.setCell ⟨B,0,none⟩ x=W at*
 exact ⟨by simp [go_sem, *],by simp [go_sem, *]⟩
theorem qG {w:World} {B:Nat} (x y u v:Value) {x0 y0:Value} (h0:w.cell? ⟨B,0,none⟩=some x0) (h1:w.cell? ⟨B,1,none⟩=some y0):
  ((((w.setCell ⟨B,0,none⟩ x).setCell ⟨B,1,none⟩ y).setCell ⟨B,0,none⟩ u).setCell ⟨B,1,none⟩ v).cell? ⟨B,0,none⟩=some u/\((((w.setCell ⟨B,0,none⟩ x).setCell ⟨B,1,none⟩ y).setCell ⟨B,0,none⟩ u).setCell ⟨B,1,none⟩ v).cell? ⟨B,1,none⟩=some v:=
 eT u v (eT x y h0 h1).1 (eT x y h0 h1).2
set_option maxRecDepth 100000 in
set_option maxHeartbeats 8000000 in
theorem DU (a b g h x y p q L H:Int) (B1:Nat) (w:World) (h0:w.cell? ⟨B1,0,none⟩=some (.int .i64 a)) (h1:w.cell? ⟨B1,1,none⟩=some (.int .i64 b))
  (P:Hid (∀w,w.cell? ⟨B1,0,none⟩=some (.int .i64 a)->w.cell? ⟨B1,1,none⟩=some (.int .i64 b)->Calls Tryz.prog 219 #[.int .i64 g,.pointer (some ⟨B1,0,none⟩)] w fun e w'=>e= .returned (.tuple #[.int .i64 x,.int .i64 y,.int .i64 0])/\Below w.heap.size w w'))
  (Q:Hid (∀w,w.cell? ⟨B1,0,none⟩=some (.int .i64 a)->w.cell? ⟨B1,1,none⟩=some (.int .i64 b)->Calls Tryz.prog 219 #[.int .i64 h,.pointer (some ⟨B1,0,none⟩)] w fun e w'=>e= .returned (.tuple #[.int .i64 p,.int .i64 q,.int .i64 0])/\Below w.heap.size w w'))
  (hL:min x p=L) (hH:max y q=H) (V:CB 45 #[.agg #[.int .i64 L,.int .i64 H]] (.bool true)):
  Calls Tryz.prog 196 #[.agg #[.int .i64 g,.int .i64 h],.func (.func 219) #[] #[.pointer (some ⟨B1,0,none⟩)]] w fun e w'=>e= .returned (.tuple #[.agg #[.int .i64 L,.int .i64 H],.int .i64 0])/\Below w.heap.size w w':=by
 have hB1:B1<w.heap.size:=World.block_lt_of_cell? _ _ h0
 have hB2:B1<w.heap.size+1:=by omega
 have hB3:B1<w.heap.size+1+1:=by omega
 have hB4:B1<w.heap.size+1+1+1:=by omega
 have m1:min (min x x) p=L:=by omega
 have m2:max (max y y) q=H:=by omega
 go_enter Tryz.func196,Tryz.ntmps196
 have ix0:∀w,(Instr.index 261 (.agg #[.int .i64 g,.int .i64 h]) (.int .i64 0)).run Tryz.prog w= .ok (.int .i64 g) w:=fun w=>by first|rfl|kernel_rfl
 have ix1:∀w,(Instr.index 261 (.agg #[.int .i64 g,.int .i64 h]) (.int .i64 1)).run Tryz.prog w= .ok (.int .i64 h) w:=fun w=>by first|rfl|kernel_rfl
 go_wp2
 refine wp_loop_rounds 3 ?_
 rw [rounds_succ]
 go_wp2_with (go_at_call 219;((with_reducible refine (P.out _ ?hc ?hd).mono ?_);(case hc=>(simp [go_sem, *];done));(case hd=>(simp [go_sem, *];done));rintro e w' ⟨rfl,hb⟩);replace hb:=mU;obtain ⟨hcell,hfroz,hz,_⟩:=mB;(try have hB1:B1<w'.heap.size:=by omega);(try have hB3:B1<w'.heap.size+1:=by omega);obtain ⟨w1,rfl⟩:=nm w')
 refine o7 (F:=Code.rounds _ _ _ _ _) ?_
 intro w' hb
 replace hb:=mU;obtain ⟨hcell,hfroz,hz,_⟩:=mB;(try have hB1:B1<w'.heap.size:=by omega);(try have hB3:B1<w'.heap.size+1:=by omega)
 have e0:=cq w1 (w.heap.size+1+1) 0 0
 have e1:=cq w1 (w.heap.size+1+1) 1 0
 have tw:=qG (.int .i64 x) (.int .i64 y) (.int .i64 x) (.int .i64 y) e0 e1
 have gz:w.heap.size+1+1<w1.heap.size:=World.block_lt_of_cell? _ _ e0
 have o0:w'.cell? ⟨w.heap.size+1+1,0,none⟩=some (.int .i64 x):=cell_later hb tw.1
 have o1:w'.cell? ⟨w.heap.size+1+1,1,none⟩=some (.int .i64 y):=cell_later hb tw.2
 have of:∀o,w'.frozen? ⟨w.heap.size+1+1,o,none⟩=false:=by intro o;simp [go_sem, *]
 have p0:=cq w' w.heap.size 0 g
 have p1:=cq w' w.heap.size 1 h
 have r0:=cq w' (w.heap.size+1) 0 0
 have r1:=cq w' (w.heap.size+1) 1 0
 have rf:∀o,w'.frozen? ⟨w.heap.size+1,o,none⟩=false:=by intro o;simp [go_sem, *]
 have hw0:Below w.heap.size w w':=bv
 have c0:w'.cell? ⟨B1,0,none⟩=some (.int .i64 a):=cell_later hw0 h0
 have c1:w'.cell? ⟨B1,1,none⟩=some (.int .i64 b):=cell_later hw0 h1
 clear hcell hfroz hz hb e0 e1 tw gz h0 h1
 obtain ⟨V0,rfl⟩:=nm w'
 have g2:w.heap.size+1+1<V0.heap.size:=World.block_lt_of_cell? _ _ o0
 have g1:w.heap.size+1<V0.heap.size:=by omega
 have g0:w.heap.size<V0.heap.size:=by omega
 have hB1:B1<V0.heap.size:=by omega
 rw [rounds_succ]
 go_wp2_with (go_at_call 219;((with_reducible refine (Q.out _ ?hc ?hd).mono ?_);(case hc=>(simp [go_sem, *];done));(case hd=>(simp [go_sem, *];done));rintro e w' ⟨rfl,hb⟩);replace hb:=mU;obtain ⟨hcell,hfroz,hz,_⟩:=mB;(try have hB1:B1<w'.heap.size:=by omega);(try have hB3:B1<w'.heap.size+1:=by omega);obtain ⟨w2,rfl⟩:=nm w')
 refine o7 (F:=Code.rounds _ _ _ _ _) ?_
 intro w' hb
 replace hb:=mU;obtain ⟨hcell,hfroz,hz,_⟩:=mB;(try have hB1:B1<w'.heap.size:=by omega);(try have hB3:B1<w'.heap.size+1:=by omega)
 have e0:=cq w2 (w.heap.size+1+1) 0 x
 have e1:=cq w2 (w.heap.size+1+1) 1 y
 have tw:=eT (.int .i64 L) (.int .i64 H) e0 e1
 have k0:w'.cell? ⟨w.heap.size+1+1,0,none⟩=some (.int .i64 L):=cell_later hb tw.1
 have k1:w'.cell? ⟨w.heap.size+1+1,1,none⟩=some (.int .i64 H):=cell_later hb tw.2
 have s0:=cq w' (w.heap.size+1) 0 0
 have s1:=cq w' (w.heap.size+1) 1 0
 have sf:∀o,w'.frozen? ⟨w.heap.size+1,o,none⟩=false:=by intro o;simp [go_sem, *]
 have hw1:Below w.heap.size w w':=bv
 clear hcell hfroz hz hb e0 e1 tw c0 c1 o0 o1 r0 r1 p0 p1 hw0
 obtain ⟨V1,rfl⟩:=nm w'
 have g2:w.heap.size+1+1<V1.heap.size:=World.block_lt_of_cell? _ _ k0
 have g1:w.heap.size+1<V1.heap.size:=by omega
 have g0:w.heap.size<V1.heap.size:=by omega
 rw [rounds_succ]
 go_wp2_with (go_at_call 45;((with_reducible refine am (V.out _) ?_);intro w' hb);replace hb:=mU;obtain ⟨hcell,hfroz,hz,_⟩:=mB;(try have hB1:B1<w'.heap.size:=by omega);(try have hB3:B1<w'.heap.size+1:=by omega);obtain ⟨w3,rfl⟩:=nm w')
 exact bodyPost_ret (v:= .tuple #[.agg #[.int .i64 L,.int .i64 H],.int .i64 0]) (by first|(simp only [results,Tryz.results196];go_simp;done)|simp [results,Tryz.results196,go_sem, *]) rfl ⟨rfl,bw⟩
theorem tD (a b g h N:Int) (w:World) (hf:x8 a b=true) (b0: -1073741824<=a) (b1:b<=1073741824) (g0:0<=g) (gh:g<=h) (hN:h<=N) (N1:N<=1099511627776):
  Calls Tryz.prog 126 #[.agg #[.int .i64 a,.int .i64 b],.agg #[.int .i64 g,.int .i64 h]] w fun e w'=>e= .returned (.tuple #[.agg #[.int .i64 (qZ g h a b),.int .i64 (pT g h a b)],.int .i64 0])/\Below w.heap.size w w':=by
 have ab:=(K6 hf).2.1
 have bd:=a2C g0 gh hN b0 (by omega:a<=1073741824) (by omega: -1073741824<=b) b1
 have le:=a2u g h a b
 have V:=b6 fun w=>(by have:=G7 (qZ g h a b) (pT g h a b) w;rw [G8 (by omega)] at this;exact this:Calls Tryz.prog 45 #[.agg #[.int .i64 (qZ g h a b),.int .i64 (pT g h a b)]] w fun e w'=>e= .returned (.bool true)/\Below w.heap.size w w')
 have B:Hid (∀B1 w,w.cell? ⟨B1,0,none⟩=some (.int .i64 a)->w.cell? ⟨B1,1,none⟩=some (.int .i64 b)->Calls Tryz.prog 196 #[.agg #[.int .i64 g,.int .i64 h],.func (.func 219) #[] #[.pointer (some ⟨B1,0,none⟩)]] w fun e w'=>e= .returned (.tuple #[.agg #[.int .i64 (qZ g h a b),.int .i64 (pT g h a b)],.int .i64 0])/\Below w.heap.size w w'):=b6 fun B1 w h0 h1=>DU a b g h _ _ _ _ _ _ B1 w h0 h1 (b6 fun w h0 h1=>qU a b g B1 w h0 h1 hf (nR (by omega))) (b6 fun w h0 h1=>qU a b h B1 w h0 h1 hf (nR (by omega))) rfl rfl V
 generalize qZ g h a b=L at*
 generalize pT g h a b=H at*
 go_enter Tryz.func126,Tryz.ntmps126
 go_wp2_with (go_at_call 196;((refine (B.out _ _ ?hc ?hd).mono ?_);(case hc=>(simp [go_sem, *];done));(case hd=>(simp [go_sem, *];done));rintro e w' ⟨rfl,hb⟩);replace hb:=mU;obtain ⟨hcell,hfroz,hz,_⟩:=mB;obtain ⟨w1,rfl⟩:=nm w')
 exact bodyPost_ret (v:= .tuple #[.agg #[.int .i64 L,.int .i64 H],.int .i64 0]) (by first|(simp only [results,Tryz.results126];go_simp;done)|simp [results,Tryz.results126,go_sem, *]) rfl ⟨rfl,bw⟩
set_option maxRecDepth 100000 in
set_option maxHeartbeats 8000000 in
theorem EK (a b g h x y u v L1 H1 L2 H2:Int) (w:World)
  (VL:CB 43 #[.agg #[.int .i64 a,.int .i64 b,.int .i64 g,.int .i64 h]] (.bool true))
  (C:CB 124 #[.agg #[.int .i64 a,.int .i64 b]] (.tuple #[.agg #[.int .i64 x,.int .i64 y],.int .i64 0]))
  (S:CB 125 #[.agg #[.int .i64 a,.int .i64 b]] (.tuple #[.agg #[.int .i64 u,.int .i64 v],.int .i64 0]))
  (P:CB 126 #[.agg #[.int .i64 x,.int .i64 y],.agg #[.int .i64 g,.int .i64 h]] (.tuple #[.agg #[.int .i64 L1,.int .i64 H1],.int .i64 0]))
  (Q:CB 126 #[.agg #[.int .i64 u,.int .i64 v],.agg #[.int .i64 g,.int .i64 h]] (.tuple #[.agg #[.int .i64 L2,.int .i64 H2],.int .i64 0])):
  Calls Tryz.prog 44 #[.agg #[.int .i64 a,.int .i64 b,.int .i64 g,.int .i64 h]] w fun e w'=>e= .returned (.tuple #[.agg #[.int .i64 L1,.int .i64 H1],.agg #[.int .i64 L2,.int .i64 H2],.int .i64 0])/\Below w.heap.size w w':=by
 have ix0:∀w,(Instr.index 188 (.agg #[.func (.func 124) #[] #[],.func (.func 125) #[] #[]]) (.int .i64 0)).run Tryz.prog w= .ok (.func (.func 124) #[] #[]) w:=fun w=>by first|rfl|kernel_rfl
 have ix1:∀w,(Instr.index 188 (.agg #[.func (.func 124) #[] #[],.func (.func 125) #[] #[]]) (.int .i64 1)).run Tryz.prog w= .ok (.func (.func 125) #[] #[]) w:=fun w=>by first|rfl|kernel_rfl
 go_enter Tryz.func44,Tryz.ntmps44
 go_wp2_with (go_at_call 43;((with_reducible refine am (VL.out _) ?_);intro w' hb);replace hb:=mU;obtain ⟨hcell,hfroz,hz,_⟩:=mB;obtain ⟨w1,rfl⟩:=nm w')
 refine wp_loop_rounds 3 ?_
 rw [rounds_succ]
 go_wp2_with (first|(go_at_call 124;((with_reducible refine am (C.out _) ?_);intro w' hb);replace hb:=mU;obtain ⟨hcell,hfroz,hz,_⟩:=mB;obtain ⟨w2,rfl⟩:=nm w')|(go_at_call 126;((with_reducible refine am (P.out _) ?_);intro w' hb);replace hb:=mU;obtain ⟨hcell,hfroz,hz,_⟩:=mB;obtain ⟨w3,rfl⟩:=nm w'))
 refine o7 (F:=Code.rounds _ _ _ _ _) ?_
 intro w' hb
 replace hb:=mU;obtain ⟨hcell,hfroz,hz,_⟩:=mB
 have hw0:Below w.heap.size w w':=bv
 have p0:=cq w' w.heap.size 0 a
 have p1:=cq w' w.heap.size 1 b
 have p2:=cq w' w.heap.size 2 g
 have p3:=cq w' w.heap.size 3 h
 have r0:=cq w' (w.heap.size+1) 0 0
 have r1:=cq w' (w.heap.size+1) 1 0
 have rf:∀o,w'.frozen? ⟨w.heap.size+1,o,none⟩=false:=by intro o;simp [go_sem, *]
 have s0:=cq w' (w.heap.size+1+1) 0 0
 have s1:=cq w' (w.heap.size+1+1) 1 0
 have sf:∀o,w'.frozen? ⟨w.heap.size+1+1,o,none⟩=false:=by intro o;simp [go_sem, *]
 have q0:=cq w' w1.heap.size 0 L1
 have q1:=cq w' w1.heap.size 1 H1
 have q2:=cq w' w1.heap.size 2 0
 have q3:=cq w' w1.heap.size 3 0
 have qf:∀o,w'.frozen? ⟨w1.heap.size,o,none⟩=false:=by intro o;simp [go_sem, *]
 have z12:w.heap.size+1+1<w1.heap.size:=by omega
 clear hcell hfroz hz hb
 obtain ⟨V0,rfl⟩:=nm w'
 have g5:w1.heap.size<V0.heap.size:=World.block_lt_of_cell? _ _ q0
 have g2:w.heap.size+1+1<V0.heap.size:=World.block_lt_of_cell? _ _ s0
 have g1:w.heap.size+1<V0.heap.size:=by omega
 have g0:w.heap.size<V0.heap.size:=by omega
 rw [rounds_succ]
 go_wp2_with (first|(go_at_call 125;((with_reducible refine am (S.out _) ?_);intro w' hb);replace hb:=mU;obtain ⟨hcell,hfroz,hz,_⟩:=mB;obtain ⟨w4,rfl⟩:=nm w')|(go_at_call 126;((with_reducible refine am (Q.out _) ?_);intro w' hb);replace hb:=mU;obtain ⟨hcell,hfroz,hz,_⟩:=mB;obtain ⟨w5,rfl⟩:=nm w'))
 refine o7 (F:=Code.rounds _ _ _ _ _) ?_
 intro w' hb
 replace hb:=mU;obtain ⟨hcell,hfroz,hz,_⟩:=mB
 have k0:=cq w' w1.heap.size 0 L1
 have k1:=cq w' w1.heap.size 1 H1
 have k2:=cq w' w1.heap.size 2 L2
 have k3:=cq w' w1.heap.size 3 H2
 have l0:=cq w' (w.heap.size+1) 0 0
 have l1:=cq w' (w.heap.size+1) 1 0
 have lf:∀o,w'.frozen? ⟨w.heap.size+1,o,none⟩=false:=by intro o;simp [go_sem, *]
 have m0:=cq w' (w.heap.size+1+1) 0 0
 have m1:=cq w' (w.heap.size+1+1) 1 0
 have mf:∀o,w'.frozen? ⟨w.heap.size+1+1,o,none⟩=false:=by intro o;simp [go_sem, *]
 have hw1:Below w.heap.size w w':=bw
 clear hcell hfroz hz hb p0 p1 p2 p3 r0 r1 rf s0 s1 sf q0 q1 q2 q3 qf hw0
 obtain ⟨V1,rfl⟩:=nm w'
 have g5:w1.heap.size<V1.heap.size:=World.block_lt_of_cell? _ _ k0
 have g2:w.heap.size+1+1<V1.heap.size:=World.block_lt_of_cell? _ _ m0
 have g1:w.heap.size+1<V1.heap.size:=by omega
 rw [rounds_succ]
 go_wp2
 go_region
 go_wp2
 exact bodyPost_ret (v:= .tuple #[.agg #[.int .i64 L1,.int .i64 H1],.agg #[.int .i64 L2,.int .i64 H2],.int .i64 0]) (by first|(simp only [results,Tryz.results44];go_simp;done)|simp [results,Tryz.results44,go_sem, *]) rfl ⟨rfl,bw⟩
theorem VB {w:World} {B o:Nat} (x:Value) {x0:Value} (h0:w.cell? ⟨B,o,none⟩=some x0):(w.setCell ⟨B,o,none⟩ x).cell? ⟨B,o,none⟩=some x:=by simp [go_sem, *]
end Go.Proofs.YtdhbeoahpfimbaaGreat
