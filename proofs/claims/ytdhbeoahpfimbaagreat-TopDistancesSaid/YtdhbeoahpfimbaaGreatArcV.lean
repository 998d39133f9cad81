/- Part of the proof of TopDistances. -/
import Derived.Test.YtdhbeoahpfimbaaGreatAd
import Derived.Test.YtdhbeoahpfimbaaGreatRa
namespace Go.Proofs.YtdhbeoahpfimbaaGreat
open Go.RowKit Brg
set_option maxRecDepth 100000 in
set_option maxHeartbeats 8000000 in
theorem xM (k p0 p1 p2 p3 m0 m1 m2 m3 t0 t1 t2 t3 q0 q1 q2 q3 s0 s1 s2 s3 c0 c1 c2 c3:Int) (w:World) (k0:0<=k) (k1:k<=2700000)
  (PI:CB 305 #[] (.agg #[.int .u64 p0,.int .u64 p1,.int .u64 p2,.int .u64 p3]))
  (T:CB 269 #[.agg #[.int .u64 p0,.int .u64 p1,.int .u64 p2,.int .u64 p3],.int .u64 k] (.agg #[.int .u64 m0,.int .u64 m1,.int .u64 m2,.int .u64 m3]))
  (O:CB 306 #[.agg #[.int .u64 m0,.int .u64 m1,.int .u64 m2,.int .u64 m3],.int .u64 10800000] (.agg #[.int .u64 t0,.int .u64 t1,.int .u64 t2,.int .u64 t3]))
  (M:CB 307 #[.agg #[.int .u64 t0,.int .u64 t1,.int .u64 t2,.int .u64 t3],.agg #[.int .u64 t0,.int .u64 t1,.int .u64 t2,.int .u64 t3]] (.agg #[.int .u64 q0,.int .u64 q1,.int .u64 q2,.int .u64 q3]))
  (S:CB 308 #[.agg #[.int .u64 t0,.int .u64 t1,.int .u64 t2,.int .u64 t3],.agg #[.int .u64 q0,.int .u64 q1,.int .u64 q2,.int .u64 q3],.int .u64 1] (.agg #[.int .u64 s0,.int .u64 s1,.int .u64 s2,.int .u64 s3]))
  (C:CB 308 #[.agg #[.int .u64 1,.int .u64 0,.int .u64 0,.int .u64 0],.agg #[.int .u64 q0,.int .u64 q1,.int .u64 q2,.int .u64 q3],.int .u64 0] (.agg #[.int .u64 c0,.int .u64 c1,.int .u64 c2,.int .u64 c3])):
  Calls Tryz.prog 268 #[.int .i64 k] w fun e w'=>e= .returned (.tuple #[.agg #[.int .u64 s0,.int .u64 s1,.int .u64 s2,.int .u64 s3],.agg #[.int .u64 c0,.int .u64 c1,.int .u64 c2,.int .u64 c3]])/\Below w.heap.size w w':=by
 go_enter Tryz.func268,Tryz.ntmps268
 go_upto_region 6 with (first|(go_at_call 305;((with_reducible refine am (PI.out _) ?_);intro w' hb);replace hb:=mU;obtain ⟨hcell,hfroz,hz,_⟩:=mB;obtain ⟨w1,rfl⟩:=nm w')|(go_at_call 269;((with_reducible refine am (T.out _) ?_);intro w' hb);replace hb:=mU;obtain ⟨hcell,hfroz,hz,_⟩:=mB;obtain ⟨w2,rfl⟩:=nm w')|(go_at_call 306;((with_reducible refine am (O.out _) ?_);intro w' hb);replace hb:=mU;obtain ⟨hcell,hfroz,hz,_⟩:=mB;obtain ⟨w3,rfl⟩:=nm w')|(go_at_call 307;((with_reducible refine am (M.out _) ?_);intro w' hb);replace hb:=mU;obtain ⟨hcell,hfroz,hz,_⟩:=mB;obtain ⟨w4,rfl⟩:=nm w'))
 refine m9 ?_
 intro w' hb
 replace hb:=mU;obtain ⟨hcell,hfroz,hz,_⟩:=mB
 have x0:=A7 w' w3.heap.size 0 t0
 have x1:=A7 w' w3.heap.size 1 t1
 have x2:=A7 w' w3.heap.size 2 t2
 have x3:=A7 w' w3.heap.size 3 t3
 have y0:=A7 w' w4.heap.size 0 q0
 have y1:=A7 w' w4.heap.size 1 q1
 have y2:=A7 w' w4.heap.size 2 q2
 have y3:=A7 w' w4.heap.size 3 q3
 have r0:=A7 w' w.heap.size 0 0
 have r1:=A7 w' w.heap.size 1 0
 have r2:=A7 w' w.heap.size 2 0
 have r3:=A7 w' w.heap.size 3 0
 have rf:∀o,w'.frozen? ⟨w.heap.size,o,none⟩=false:=by intro o;simp [go_sem, *]
 have u0:=A7 w' (w.heap.size+1) 0 0
 have u1:=A7 w' (w.heap.size+1) 1 0
 have u2:=A7 w' (w.heap.size+1) 2 0
 have u3:=A7 w' (w.heap.size+1) 3 0
 have uf:∀o,w'.frozen? ⟨w.heap.size+1,o,none⟩=false:=by intro o;simp [go_sem, *]
 have hw0:Below w.heap.size w w':=bw
 clear hcell hfroz hz hb
 obtain ⟨V0,rfl⟩:=nm w'
 have g3:w3.heap.size<V0.heap.size:=World.block_lt_of_cell? _ _ x0
 have g4:w4.heap.size<V0.heap.size:=World.block_lt_of_cell? _ _ y0
 have g1:w.heap.size+1<V0.heap.size:=World.block_lt_of_cell? _ _ u0
 have g0:w.heap.size<V0.heap.size:=by omega
 refine n9 6 (by kernel_rfl) (by kernel_rfl) ?_
 simp only [List.take_succ_cons,List.take_zero,List.drop_succ_cons,List.drop_zero]
 repeat (first|go_big_quiet_step ((first|(go_at_call 308;(with_reducible exact Calls.regrown_of (S.out _)))|(go_at_call 308;(with_reducible exact Calls.regrown_of (C.out _)))))|quiet_step ((first|(go_at_call 308;(with_reducible exact Calls.regrown_of (S.out _)))|(go_at_call 308;(with_reducible exact Calls.regrown_of (C.out _))))))
 refine wpQuiet_nil ?_;intro w' hw';have hb:=i8 hw';clear hw';replace hb:=mU;obtain ⟨hcell,hfroz,hz,_⟩:=mB
 go_wp2
 exact bodyPost_ret (v:= .tuple #[.agg #[.int .u64 s0,.int .u64 s1,.int .u64 s2,.int .u64 s3],.agg #[.int .u64 c0,.int .u64 c1,.int .u64 c2,.int .u64 c3]]) (by first|(simp only [results,Tryz.results268];go_simp;done)|simp [results,Tryz.results268,go_sem, *]) rfl ⟨rfl,bw⟩
theorem pP (k:Int) (w:World) (k0:0<=k) (k1:k<=2700000):
  Calls Tryz.prog 268 #[.int .i64 k] w fun e w'=>e= .returned (.tuple #[cJ (fQ k),cJ (iK k)])/\Below w.heap.size w w':=by
 have hW:=fD
 have hW2:0<o6:=by have:=N8;omega
 have p0:0<=eW/\eW<o6:=by unfold eW o6 G9;omega
 have ab:=lH k0 k1
 have qb:=lS k0 k1
 have sb:=lW k0 k1
 have cb:=kK k0 k1
 have pk:0<=eW*k/\eW*k<o6:=by unfold eW o6 G9;omega
 have e1:eW*k%o6=eW*k:=Int.emod_eq_of_lt pk.1 pk.2
 have e2:T5 k*T5 k/x6%o6=kT k:=by
  have:T5 k*T5 k/x6=kT k:=rfl
  rw [this]
  exact Int.emod_eq_of_lt qb.1 (by omega)
 have O0:=fun w=>sX (eW*k) 10800000 w pk.1 pk.2 (by omega) (by omega)
 have e3:eW*k/10800000=T5 k:=rfl
 have T0:=fun w=>jP eW k w p0.1 p0.2 (by unfold v7;omega)
 have M0:=fun w=>AI (T5 k) (T5 k) w ab.1 (by omega) ab.1 (by omega)
 have S0:=fun w=>pY (T5 k) (kT k) 1 w ab.1 ab.2 qb.1 qb.2 (by omega) (by omega)
 have C0:=fun w=>pY x6 (kT k) 0 w (by omega) (Int.le_refl _) qb.1 qb.2 (by omega) (by omega)
 have e4:dV 200 (kT k) (T5 k) (T5 k) 1 true=fQ k:=rfl
 have e5:dV 200 (kT k) x6 x6 0 true=iK k:=rfl
 rw [e1] at T0
 rw [e3] at O0
 rw [e2] at M0
 rw [e4] at S0
 rw [e5] at C0
 clear e1 e2 e3 e4 e5
 obtain ⟨m0,m1,m2,m3,WM,-⟩:=O6 (eW*k) pk.1 pk.2
 obtain ⟨t0,t1,t2,t3,WT,-⟩:=O6 (T5 k) ab.1 (by omega)
 obtain ⟨q0,q1,q2,q3,WQ,-⟩:=O6 (kT k) qb.1 (by omega)
 obtain ⟨s0,s1,s2,s3,WS,-⟩:=O6 (fQ k) sb.1 (by omega)
 obtain ⟨c0,c1,c2,c3,WC,-⟩:=O6 (iK k) cb.1 (by omega)
 have PI:=fun w=>a1n w
 rw [TA] at T0 PI
 rw [C9 WM] at T0 O0
 rw [C9 WT] at O0 M0 S0
 rw [C9 WQ] at M0 S0 C0
 rw [ZJ] at C0
 rw [C9 WS] at S0
 rw [C9 WC] at C0
 rw [C9 WS,C9 WC]
 exact xM k _ _ _ _ m0 m1 m2 m3 t0 t1 t2 t3 q0 q1 q2 q3 s0 s1 s2 s3 c0 c1 c2 c3 w k0 k1 (b6 PI) (b6 T0) (b6 O0) (b6 M0) (b6 S0) (b6 C0)
theorem rN {w:World} {B:Nat} (x0 x1 x2 x3:Value) {y0 y1 y2 y3:Value} (h0:w.cell? ⟨B,0,none⟩=some y0) (h1:w.cell? ⟨B,1,none⟩=some y1) (h2:w.cell? ⟨B,2,none⟩=some y2) (h3:w.cell? ⟨B,3,none⟩=some y3):
  ((((w.setCell ⟨B,0,none⟩ x0).setCell ⟨B,1,none⟩ x1).setCell ⟨B,2,none⟩ x2).setCell ⟨B,3,none⟩ x3).cell? ⟨B,0,none⟩=some x0/\((((w.setCell ⟨B,0,none⟩ x0).setCell ⟨B,1,none⟩ x1).setCell ⟨B,2,none⟩ x2).setCell ⟨B,3,none⟩ x3).cell? ⟨B,1,none⟩=some x1/\((((w.setCell ⟨B,0,none⟩ x0).setCell ⟨B,1,none⟩ x1).setCell ⟨B,2,none⟩ x2).setCell ⟨B,3,none⟩ x3).cell? ⟨B,2,none⟩=some x2/\((((w.setCell ⟨B,0,none⟩ x0).setCell ⟨B,1,none⟩ x1).setCell ⟨B,2,none⟩ x2).setCell ⟨B,3,none⟩ x3).cell? ⟨B,3,none⟩=some x3:=by
 refine ⟨?_,?_,?_,?_⟩<;>simp [go_sem, *]
theorem rK {w:World} {B C:Nat} (n:B≠C) (o:Nat) (x0 x1 x2 x3:Value):((((w.setCell ⟨B,0,none⟩ x0).setCell ⟨B,1,none⟩ x1).setCell ⟨B,2,none⟩ x2).setCell ⟨B,3,none⟩ x3).cell? ⟨C,o,none⟩=w.cell? ⟨C,o,none⟩:=by
 have ne:∀p o,(⟨B,p,none⟩:Addr)≠⟨C,o,none⟩:=fun p o e=>by injection e with e;exact n e
 rw [World.cell?_setCell_other _ _ _ _ (ne _ _),World.cell?_setCell_other _ _ _ _ (ne _ _),World.cell?_setCell_other _ _ _ _ (ne _ _),World.cell?_setCell_other _ _ _ _ (ne _ _)]
set_option maxRecDepth 100000 in
set_option maxHeartbeats 8000000 in
theorem yX (k s0 s1 s2 s3 c0 c1 c2 c3:Int) (w:World) (k0:2700000<k) (k1:k<=5400000)
  (L:CB 268 #[.int .i64 (5400000-k)] (.tuple #[.agg #[.int .u64 s0,.int .u64 s1,.int .u64 s2,.int .u64 s3],.agg #[.int .u64 c0,.int .u64 c1,.int .u64 c2,.int .u64 c3]])):
  Calls Tryz.prog 268 #[.int .i64 k] w fun e w'=>e= .returned (.tuple #[.agg #[.int .u64 c0,.int .u64 c1,.int .u64 c2,.int .u64 c3],.agg #[.int .u64 s0,.int .u64 s1,.int .u64 s2,.int .u64 s3]])/\Below w.heap.size w w':=by
 go_enter Tryz.func268,Tryz.ntmps268
 go_upto_region 3 with (go_at_call 268;((with_reducible refine am (L.out _) ?_);intro w' hb);replace hb:=mU;obtain ⟨hcell,hfroz,hz,_⟩:=mB;obtain ⟨w1,rfl⟩:=nm w')
 have e0:=A7 w1 (w.heap.size+1) 0 0
 have f0:=A7 w1 w.heap.size 0 0
 have e1:=A7 w1 (w.heap.size+1) 1 0
 have f1:=A7 w1 w.heap.size 1 0
 have e2:=A7 w1 (w.heap.size+1) 2 0
 have f2:=A7 w1 w.heap.size 2 0
 have e3:=A7 w1 (w.heap.size+1) 3 0
 have f3:=A7 w1 w.heap.size 3 0
 have ne:w.heap.size≠w.heap.size+1:=by omega
 have ne':w.heap.size+1≠w.heap.size:=by omega
 have A:=rN (.int .u64 s0) (.int .u64 s1) (.int .u64 s2) (.int .u64 s3) e0 e1 e2 e3
 have B:=fun o=>rK (w:=w1) ne' o (.int .u64 s0) (.int .u64 s1) (.int .u64 s2) (.int .u64 s3)
 have D:=rN (.int .u64 c0) (.int .u64 c1) (.int .u64 c2) (.int .u64 c3) ((B 0).trans f0) ((B 1).trans f1) ((B 2).trans f2) ((B 3).trans f3)
 have E:=fun o=>rK (w:=((((w1.setCell ⟨w.heap.size+1,0,none⟩ (.int .u64 s0)).setCell ⟨w.heap.size+1,1,none⟩ (.int .u64 s1)).setCell ⟨w.heap.size+1,2,none⟩ (.int .u64 s2)).setCell ⟨w.heap.size+1,3,none⟩ (.int .u64 s3))) ne o (.int .u64 c0) (.int .u64 c1) (.int .u64 c2) (.int .u64 c3)
 have ef:∀o,w1.frozen? ⟨w.heap.size+1,o,none⟩=false:=by intro o;simp [go_sem, *]
 have ff:∀o,w1.frozen? ⟨w.heap.size,o,none⟩=false:=by intro o;simp [go_sem, *]
 refine m9 ?_
 intro w' hb
 have u0:=cell_later hb ((E 0).trans A.1)
 have u1:=cell_later hb ((E 1).trans A.2.1)
 have u2:=cell_later hb ((E 2).trans A.2.2.1)
 have u3:=cell_later hb ((E 3).trans A.2.2.2)
 have r0:=cell_later hb D.1
 have r1:=cell_later hb D.2.1
 have r2:=cell_later hb D.2.2.1
 have r3:=cell_later hb D.2.2.2
 clear A B D E e0 e1 e2 e3 f0 f1 f2 f3
 obtain ⟨hcell,hfroz⟩:=oK hb;have hz:=hb.size;(try simp at hz);(try have z0:w.heap.size<w'.heap.size:=by omega);(try have z1:w.heap.size+1<w'.heap.size:=by omega);(try have z2:w.heap.size+1+1<w'.heap.size:=by omega);(try have y1:w1.heap.size<w'.heap.size:=by omega)
 have uf:∀o,w'.frozen? ⟨w.heap.size+1,o,none⟩=false:=by intro o;simp [go_sem, *]
 have rf:∀o,w'.frozen? ⟨w.heap.size,o,none⟩=false:=by intro o;simp [go_sem, *]
 have hw0:Below w.heap.size w w':=bw
 clear hcell hfroz hz hb ef ff
 obtain ⟨V0,rfl⟩:=nm w'
 have g1:w.heap.size+1<V0.heap.size:=World.block_lt_of_cell? _ _ u0
 have g0:w.heap.size<V0.heap.size:=by omega
 have dr0:V0.drew.setCell ⟨w.heap.size,0,none⟩ (.int .u64 c0)=V0.drew:=D9 (by simp [go_sem, *])
 have dr1:V0.drew.setCell ⟨w.heap.size,1,none⟩ (.int .u64 c1)=V0.drew:=D9 (by simp [go_sem, *])
 have dr2:V0.drew.setCell ⟨w.heap.size,2,none⟩ (.int .u64 c2)=V0.drew:=D9 (by simp [go_sem, *])
 have dr3:V0.drew.setCell ⟨w.heap.size,3,none⟩ (.int .u64 c3)=V0.drew:=D9 (by simp [go_sem, *])
 have du0:V0.drew.setCell ⟨w.heap.size+1,0,none⟩ (.int .u64 s0)=V0.drew:=D9 (by simp [go_sem, *])
 have du1:V0.drew.setCell ⟨w.heap.size+1,1,none⟩ (.int .u64 s1)=V0.drew:=D9 (by simp [go_sem, *])
 have du2:V0.drew.setCell ⟨w.heap.size+1,2,none⟩ (.int .u64 s2)=V0.drew:=D9 (by simp [go_sem, *])
 have du3:V0.drew.setCell ⟨w.heap.size+1,3,none⟩ (.int .u64 s3)=V0.drew:=D9 (by simp [go_sem, *])
 go_region
 go_wp2
 exact bodyPost_ret (v:= .tuple #[.agg #[.int .u64 c0,.int .u64 c1,.int .u64 c2,.int .u64 c3],.agg #[.int .u64 s0,.int .u64 s1,.int .u64 s2,.int .u64 s3]]) (by first|(simp only [results,Tryz.results268];go_simp;done)|simp [results,Tryz.results268,go_sem, *]) rfl ⟨rfl,bw⟩
theorem GB (k:Int) (w:World) (k0:0<=k) (k1:k<=5400000):
  Calls Tryz.prog 268 #[.int .i64 k] w fun e w'=>e= .returned (.tuple #[cJ (aH k),cJ (aO k)])/\Below w.heap.size w w':=by
 have hW:=fD
 unfold aH aO
 by_cases h:2700000<k
 ·rw [if_pos h,if_pos h]
  have sb:=lW (k:=5400000-k) (by omega) (by omega)
  have cb:=kK (k:=5400000-k) (by omega) (by omega)
  obtain ⟨s0,s1,s2,s3,WS,-⟩:=O6 (fQ (5400000-k)) sb.1 (by omega)
  obtain ⟨c0,c1,c2,c3,WC,-⟩:=O6 (iK (5400000-k)) cb.1 (by omega)
  have L:=fun w=>pP (5400000-k) w (by omega) (by omega)
  rw [C9 WS,C9 WC] at L
  rw [C9 WS,C9 WC]
  exact yX k s0 s1 s2 s3 c0 c1 c2 c3 w h k1 (b6 L)
 ·rw [if_neg h,if_neg h]
  exact pP k w k0 (by omega)
set_option maxRecDepth 100000 in
set_option maxHeartbeats 8000000 in
theorem vI (x y k s0 s1 s2 s3 c0 c1 c2 c3 m0 m1 m2 m3 n0 n1 n2 n3:Int) (v:Bool) (w:World) (x0:0<=x) (x1:x<=2147483648) (y0:0<=y) (y1:y<=2147483648) (hk0:(k==0)=false) (hk1:(k==2700000)=false)
  (K:CB 268 #[.int .i64 k] (.tuple #[.agg #[.int .u64 s0,.int .u64 s1,.int .u64 s2,.int .u64 s3],.agg #[.int .u64 c0,.int .u64 c1,.int .u64 c2,.int .u64 c3]]))
  (T:CB 269 #[.agg #[.int .u64 c0,.int .u64 c1,.int .u64 c2,.int .u64 c3],.int .u64 y] (.agg #[.int .u64 m0,.int .u64 m1,.int .u64 m2,.int .u64 m3]))
  (U:CB 269 #[.agg #[.int .u64 s0,.int .u64 s1,.int .u64 s2,.int .u64 s3],.int .u64 x] (.agg #[.int .u64 n0,.int .u64 n1,.int .u64 n2,.int .u64 n3]))
  (LS:CB 270 #[.agg #[.int .u64 m0,.int .u64 m1,.int .u64 m2,.int .u64 m3],.agg #[.int .u64 n0,.int .u64 n1,.int .u64 n2,.int .u64 n3]] (.bool v)):
  Calls Tryz.prog 220 #[.agg #[.int .i64 x,.int .i64 y],.int .i64 k] w fun e w'=>e= .returned (.bool (!v))/\Below w.heap.size w w':=by
 go_enter Tryz.func220,Tryz.ntmps220
 go_upto_region 7 with (go_at_call 268;((with_reducible refine am (K.out _) ?_);intro w' hb);replace hb:=mU;obtain ⟨hcell,hfroz,hz,_⟩:=mB;obtain ⟨w1,rfl⟩:=nm w')
 have q1:w.heap.size<w1.heap.size+1+1:=by omega
 have q2:w.heap.size<w1.heap.size+1:=by omega
 refine m9 ?_
 intro w' hb
 replace hb:=mU;obtain ⟨hcell,hfroz,hz,_⟩:=mB
 have f0:=A7 w' w1.heap.size 0 s0
 have f1:=A7 w' w1.heap.size 1 s1
 have f2:=A7 w' w1.heap.size 2 s2
 have f3:=A7 w' w1.heap.size 3 s3
 have g0:=A7 w' (w1.heap.size+1) 0 c0
 have g1:=A7 w' (w1.heap.size+1) 1 c1
 have g2:=A7 w' (w1.heap.size+1) 2 c2
 have g3:=A7 w' (w1.heap.size+1) 3 c3
 have p0:=cq w' w.heap.size 0 x
 have p1:=cq w' w.heap.size 1 y
 have hw0:Below w.heap.size w w':=bw
 clear hcell hfroz hz hb
 obtain ⟨V0,rfl⟩:=nm w'
 have gs:w1.heap.size<V0.heap.size:=World.block_lt_of_cell? _ _ f0
 have gc:w1.heap.size+1<V0.heap.size:=World.block_lt_of_cell? _ _ g0
 have g0':w.heap.size<V0.heap.size:=World.block_lt_of_cell? _ _ p0
 refine wp_region_quiet_below (by kernel_rfl) (by kernel_rfl) ?_
 repeat (first|go_big_quiet_step ((first|(go_at_call 269;(with_reducible exact Calls.regrown_of (T.out _)))|(go_at_call 269;(with_reducible exact Calls.regrown_of (U.out _)))|(go_at_call 270;(with_reducible exact Calls.regrown_of (LS.out _)))))|quiet_step ((first|(go_at_call 269;(with_reducible exact Calls.regrown_of (T.out _)))|(go_at_call 269;(with_reducible exact Calls.regrown_of (U.out _)))|(go_at_call 270;(with_reducible exact Calls.regrown_of (LS.out _))))))
 refine wpQuiet_nil ?_;intro w' hw';have hb:=i8 hw';clear hw';replace hb:=mU;obtain ⟨hcell,hfroz,hz,_⟩:=mB
 go_wp2
 exact bodyPost_ret (v:= .bool (!v)) (by first|(simp only [results,Tryz.results220];go_simp;done)|simp [results,Tryz.results220,go_sem, *]) rfl ⟨rfl,bw⟩
theorem DV (x y:Int) (k:Nat) (w:World) (x0:0<x) (x1:x<=2147483648) (y0:0<=y) (y1:y<=2147483648) (k0:0<k) (k1:k<5400000):
  Calls Tryz.prog 220 #[.agg #[.int .i64 x,.int .i64 y],.int .i64 k] w fun e w'=>e= .returned (.bool (cE cK sK x y k))/\Below w.heap.size w w':=by
 by_cases hk:k=2700000
 ·subst hk
  have e:cE cK sK x y 2700000=decide (x<=y):=by
   have h1:(cK 2700000:Int)=1:=rfl
   have h2:(sK 2700000:Int)=1:=rfl
   unfold cE
   rw [h1,h2,decide_eq_decide]
   omega
  rw [e]
  by_cases hxy:x<=y
  ·have H:=b6 hxy
   go_enter Tryz.func220,Tryz.ntmps220
   go_wp2
   exact bodyPost_ret (v:= .bool (decide (x<=y))) (by first|(simp only [results,Tryz.results220];go_simp;done)|simp [results,Tryz.results220,go_sem, *]) rfl ⟨rfl,bw⟩
  ·go_enter Tryz.func220,Tryz.ntmps220
   go_wp2
   exact bodyPost_ret (v:= .bool (decide (x<=y))) (by first|(simp only [results,Tryz.results220];go_simp;done)|simp [results,Tryz.results220,go_sem, *]) rfl ⟨rfl,bw⟩
 ·have hW:=fD
  have sb:=yA (k:=k) (by omega) (by omega)
  have cb:=AL (k:=k) (by omega) (by omega)
  have e1:(sK k:Int)=aH k:=by unfold sK;rw [if_neg (by omega),if_neg hk];omega
  have e2:(cK k:Int)=aO k:=by unfold cK;rw [if_neg (by omega),if_neg hk];omega
  have e:cE cK sK x y k= !(decide (aO k*y<aH k*x)):=by
   unfold cE
   rw [e1,e2,<-decide_not,decide_eq_decide]
   omega
  rw [e]
  have my:0<=aO k*y/\aO k*y<o6:=by
   have a:=Int.mul_le_mul cb.2 y1 y0 (by have:=N8;omega)
   refine ⟨Int.mul_nonneg cb.1 y0,?_⟩
   unfold o6 x6 G9 at*
   omega
  have mx:0<=aH k*x/\aH k*x<o6:=by
   have a:=Int.mul_le_mul sb.2 x1 (by omega) (by have:=N8;omega)
   refine ⟨Int.mul_nonneg sb.1 (by omega),?_⟩
   unfold o6 x6 G9 at*
   omega
  have K0:=fun w=>GB k w (by omega) (by omega)
  have T0:=fun w=>jP (aO k) y w cb.1 (by omega) (by unfold v7;omega)
  have U0:=fun w=>jP (aH k) x w sb.1 (by omega) (by unfold v7;omega)
  rw [Int.emod_eq_of_lt my.1 my.2] at T0
  rw [Int.emod_eq_of_lt mx.1 mx.2] at U0
  have L0:=fun w=>LW (aO k*y) (aH k*x) w my.1 my.2 mx.1 mx.2
  obtain ⟨s0,s1,s2,s3,WS,-⟩:=O6 (aH k) sb.1 (by omega)
  obtain ⟨c0,c1,c2,c3,WC,-⟩:=O6 (aO k) cb.1 (by omega)
  obtain ⟨m0,m1,m2,m3,WM,-⟩:=O6 (aO k*y) my.1 my.2
  obtain ⟨n0,n1,n2,n3,WN,-⟩:=O6 (aH k*x) mx.1 mx.2
  rw [C9 WS,C9 WC] at K0
  rw [C9 WC,C9 WM] at T0
  rw [C9 WS,C9 WN] at U0
  rw [C9 WM,C9 WN] at L0
  have hk0:((k:Int)==0)=false:=beq_false_of_ne (by omega)
  have hk1:((k:Int)==2700000)=false:=beq_false_of_ne (by omega)
  exact vI x y k s0 s1 s2 s3 c0 c1 c2 c3 m0 m1 m2 m3 n0 n1 n2 n3 _ w (by omega) x1 y0 y1 hk0 hk1 (b6 K0) (b6 T0) (b6 U0) (b6 L0)
end Go.Proofs.YtdhbeoahpfimbaaGreat
