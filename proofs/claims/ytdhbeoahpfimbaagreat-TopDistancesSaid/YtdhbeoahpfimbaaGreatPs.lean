/- Part of the proof of TopDistances. -/
import Derived.Test.YtdhbeoahpfimbaaGreatPt
import Derived.Deep.AppendLies
namespace Go.Proofs.YtdhbeoahpfimbaaGreat
open Go.RowKit
set_option maxRecDepth 100000 in
set_option maxHeartbeats 4000000 in
theorem LU (d:Int) (w:World) (h1:0<=d) (h2:d<=10800000):
  Calls Tryz.prog 300 #[.agg #[.int .i64 0,.int .i64 0],.agg #[.int .i64 0,.int .i64 d]] w fun e w'=>∃v,e= .returned v/\w'.ownsRow w.heap.size 23 2 v 1 [.int .i64 0,.int .i64 0]/\Below w.heap.size w w':=by
 have A:=b6 fun w=>iH 0 0 w (by omega)
 have B:=b6 fun w=>iH 0 d w (by omega)
 have Y:=b6 fun w=>fI 0 0 0 0 w (by omega) (by omega) (by omega)
 have S:=b6 fun w=>(by have:=cF 0 w (by decide) (by decide);exact this:Calls Tryz.prog 21 #[.int .i64 0] w fun e w'=>e= .returned (.int .i64 0)/\w=w')
 obtain ⟨i0,hi,hz0,hz1,hz2⟩:=V9 HG
 go_enter Tryz.func300,Tryz.ntmps300
 go_upto_region 6 with (first|(go_at_call 252;((with_reducible refine am (A.out _) ?_);intro w' hb);replace hb:=mU;obtain ⟨hcell,hfroz,hz,_⟩:=mB;obtain ⟨w1,rfl⟩:=nm w')|(go_at_call 252;((with_reducible refine am (B.out _) ?_);intro w' hb);replace hb:=mU;obtain ⟨hcell,hfroz,hz,_⟩:=mB;obtain ⟨w2,rfl⟩:=nm w'))
 (refine m9 ?_;intro w' hb;replace hb:=mU;obtain ⟨hcell,hfroz,hz,_⟩:=mB)
 have p0:=cq w' w.heap.size 0 0
 have p1:=cq w' w.heap.size 1 0
 have q0:=cq w' (w.heap.size+1) 0 0
 have q1:=cq w' (w.heap.size+1) 1 d
 have hw0:Below w.heap.size w w':=bw
 clear hcell hfroz hz hb
 obtain ⟨V0,rfl⟩:=nm w'
 have g1:w.heap.size+1<V0.heap.size:=World.block_lt_of_cell? _ _ q0
 have g0:w.heap.size<V0.heap.size:=by omega
 refine wp_region_quiet_below (by kernel_rfl) (by kernel_rfl) ?_
 repeat (first|go_big_quiet_step ((go_at_call 302;(with_reducible exact Calls.regrown_of (Y.out _))))|quiet_step ((go_at_call 302;(with_reducible exact Calls.regrown_of (Y.out _)))))
 refine wpQuiet_nil ?_;intro w' hw';have hb:=i8 hw';clear hw';replace hb:=mU;obtain ⟨hcell,hfroz,hz,_⟩:=mB
 have p0:=cq w' w.heap.size 0 0
 have p1:=cq w' w.heap.size 1 0
 have q0:=cq w' (w.heap.size+1) 0 0
 have q1:=cq w' (w.heap.size+1) 1 d
 have hw1:Below w.heap.size w w':=bw
 clear hcell hfroz hz hb hw0
 obtain ⟨V1,rfl⟩:=nm w'
 have g1:w.heap.size+1<V1.heap.size:=World.block_lt_of_cell? _ _ q0
 have g0:w.heap.size<V1.heap.size:=by omega
 have ix0:=fun w=>UG (0) (0-21600000) w
 have ix1:=fun w=>TQ (0) (0-21600000) w
 simp only [Int.zero_sub] at ix0 ix1
 go_wp2
 refine wp_loop_rounds 3 ?_
 rw [rounds_succ]
 go_wp2
 go_region
 have n0:V1.drew.ownsRow V1.heap.size 23 2 (.slice none 0 0) 0 []:=World.ownsRow_nil _ _ _ _
 have nb:Below V1.heap.size V1 V1.drew:=bw
 go_wp2_with (first|(go_at_call 21;((with_reducible refine am (S.out _) ?_);rintro w' rfl))|(at_builtin;refine wpList_append_own_at _ rfl _ _ 177 rfl V1.heap.size 23 i0 (.agg #[.int .i64 0,.int .i64 0]) 2 16 Tryz.underlying177 hi hz0 hz1 hz2 rfl (by decide) _ 0 _ rfl (n0.alloc _) ⟨V1.drew.heap.size,0,none⟩ 1 1 [.int .i64 0,.int .i64 0] rfl rfl (wB _ _ _ _) (EB _ _) (by decide) (by decide) (by simp) ?_;intro v' w' hown hg _ _))
 have hbA:Below V1.heap.size V1 w':=XG nb n0 hg
 have p0:w'.cell? ⟨w.heap.size,0,none⟩=some (.int .i64 0):=cell_later hbA p0
 have p1:w'.cell? ⟨w.heap.size,1,none⟩=some (.int .i64 0):=cell_later hbA p1
 have q0:w'.cell? ⟨w.heap.size+1,0,none⟩=some (.int .i64 0):=cell_later hbA q0
 have q1:w'.cell? ⟨w.heap.size+1,1,none⟩=some (.int .i64 d):=cell_later hbA q1
 have g0:=hbA.size
 have own2:w'.ownsRow w.heap.size 23 2 v' 1 [.int .i64 0,.int .i64 0]:=qW (by omega) hown
 obtain ⟨V2,rfl⟩:=nm w'
 clear hg n0 nb hown
 rw [rounds_succ]
 go_wp2
 go_region
 go_wp2
 rw [rounds_succ]
 go_wp2
 exact bodyPost_ret (v:=v') (by first|(simp only [results,Tryz.results300];go_simp;done)|simp [results,Tryz.results300,go_sem, *]) rfl ⟨v',rfl,G1 bw own2,bw⟩
set_option maxRecDepth 100000 in
set_option maxHeartbeats 4000000 in
theorem zQ (c d f:Int) (w:World) (h0: -10800000<=c) (hc:c<=d) (h2:d<=10800000) (hz:c<0/\d<0\/0<c) (hf:(c-0)%21600000=f):
  Calls Tryz.prog 300 #[.agg #[.int .i64 0,.int .i64 0],.agg #[.int .i64 c,.int .i64 d]] w fun e w'=>e= .returned (.slice none 0 0)/\Below w.heap.size w w':=by
 have A:=b6 fun w=>iH 0 0 w (by omega)
 have B:=b6 fun w=>iH c d w (by omega)
 have Y:=b6 fun w=>fI 0 0 c f w (by omega) (by omega) hf
 have S:=b6 fun w=>(by have:=cF 0 w (by decide) (by decide);exact this:Calls Tryz.prog 21 #[.int .i64 0] w fun e w'=>e= .returned (.int .i64 0)/\w=w')
 go_enter Tryz.func300,Tryz.ntmps300
 go_upto_region 6 with (first|(go_at_call 252;((with_reducible refine am (A.out _) ?_);intro w' hb);replace hb:=mU;obtain ⟨hcell,hfroz,hz,_⟩:=mB;obtain ⟨w1,rfl⟩:=nm w')|(go_at_call 252;((with_reducible refine am (B.out _) ?_);intro w' hb);replace hb:=mU;obtain ⟨hcell,hfroz,hz,_⟩:=mB;obtain ⟨w2,rfl⟩:=nm w'))
 (refine m9 ?_;intro w' hb;replace hb:=mU;obtain ⟨hcell,hfroz,hz,_⟩:=mB)
 have p0:=cq w' w.heap.size 0 0
 have p1:=cq w' w.heap.size 1 0
 have q0:=cq w' (w.heap.size+1) 0 c
 have q1:=cq w' (w.heap.size+1) 1 d
 have hw0:Below w.heap.size w w':=bw
 clear hcell hfroz hz hb
 obtain ⟨V0,rfl⟩:=nm w'
 have g1:w.heap.size+1<V0.heap.size:=World.block_lt_of_cell? _ _ q0
 have g0:w.heap.size<V0.heap.size:=by omega
 refine wp_region_quiet_below (by kernel_rfl) (by kernel_rfl) ?_
 repeat (first|go_big_quiet_step ((go_at_call 302;(with_reducible exact Calls.regrown_of (Y.out _))))|quiet_step ((go_at_call 302;(with_reducible exact Calls.regrown_of (Y.out _)))))
 refine wpQuiet_nil ?_;intro w' hw';have hb:=i8 hw';clear hw';replace hb:=mU;obtain ⟨hcell,hfroz,hz,_⟩:=mB
 have p0:=cq w' w.heap.size 0 0
 have p1:=cq w' w.heap.size 1 0
 have q0:=cq w' (w.heap.size+1) 0 c
 have q1:=cq w' (w.heap.size+1) 1 d
 have hw1:Below w.heap.size w w':=bw
 clear hcell hfroz hz hb hw0
 obtain ⟨V1,rfl⟩:=nm w'
 have g1:w.heap.size+1<V1.heap.size:=World.block_lt_of_cell? _ _ q0
 have g0:w.heap.size<V1.heap.size:=by omega
 have ix0:=fun w=>UG (f) (f-21600000) w
 have ix1:=fun w=>TQ (f) (f-21600000) w
 have f1:0<=f:=by omega
 have f2:f<=21600000:=by omega
 have f3:0<f:=by omega
 have f4:f-21600000<=0:=by omega
 have f5:¬0<f-21600000:=by omega
 have m2:0<=f+d-c:=by omega
 have m3:decide (f<=0)=false:=by simp;omega
 have m5:f-21600000+d-c<0:=by omega
 have m6:decide (0<=f-21600000+d-c)=false:=by simp;omega
 clear hz hf
 go_wp2
 refine wp_loop_rounds 3 ?_
 rw [rounds_succ]
 go_wp2
 go_region
 go_wp2
 refine o7 (F:=Code.rounds _ _ _ _ _) ?_
 intro w' hb
 replace hb:=mU;obtain ⟨hcell,hfroz,hz,_⟩:=mB
 have p0:w'.cell? ⟨w.heap.size,0,none⟩=some (.int .i64 0):=cell_later hb p0
 have p1:w'.cell? ⟨w.heap.size,1,none⟩=some (.int .i64 0):=cell_later hb p1
 have q0:w'.cell? ⟨w.heap.size+1,0,none⟩=some (.int .i64 c):=cell_later hb q0
 have q1:w'.cell? ⟨w.heap.size+1,1,none⟩=some (.int .i64 d):=cell_later hb q1
 have hw2:Below w.heap.size w w':=bw
 clear hcell hfroz hz hb hw1
 obtain ⟨V2,rfl⟩:=nm w'
 have g1:w.heap.size+1<V2.heap.size:=World.block_lt_of_cell? _ _ q0
 have g0:w.heap.size<V2.heap.size:=by omega
 rw [rounds_succ]
 go_wp2
 go_region
 go_wp2
 rw [rounds_succ]
 go_wp2
 exact bodyPost_ret (v:= .slice none 0 0) (by first|(simp only [results,Tryz.results300];go_simp;done)|simp [results,Tryz.results300,go_sem, *]) rfl ⟨rfl,bw⟩
set_option maxRecDepth 100000 in
set_option maxHeartbeats 4000000 in
theorem FV (g cap:Nat) (w:World) (h0:w.cell? ⟨g,0,none⟩=some (.int .i64 0)) (h1:w.cell? ⟨g,1,none⟩=some (.int .i64 0)):
  Calls Tryz.prog 301 #[.slice (some ⟨g,0,none⟩) 1 cap] w fun e w'=>e= .returned (.agg #[.int .i64 0,.int .i64 0])/\Below w.heap.size w w':=by
 have E:=b6 zM
 have A:=b6 fun w=>iH 0 0 w (by omega)
 have Y:=b6 fun w=>fI 0 0 0 0 w (by omega) (by omega) (by omega)
 have hg:g<w.heap.size:=World.block_lt_of_cell? _ _ h0
 have hg1:g<w.heap.size+1:=by omega
 go_enter Tryz.func301,Tryz.ntmps301
 go_wp2_with (go_at_call 297;((with_reducible refine am (E.out _) ?_);intro w' hb);replace hb:=mU;obtain ⟨hcell,hfroz,hz,_⟩:=mB;obtain ⟨w1,rfl⟩:=nm w';have hg2:g<w1.heap.size:=(by omega);have hg3:g<w1.heap.size+1:=(by omega);have hg4:g<w1.heap.size+1+1:=(by omega);have hd1:w.heap.size<w1.heap.size+1+1:=(by omega))
 refine wp_loop_rounds 2 ?_
 rw [rounds_succ]
 go_wp2_with (go_at_call 252;((with_reducible refine am (A.out _) ?_);intro w' hb);replace hb:=mU;obtain ⟨hcell,hfroz,hz,_⟩:=mB;obtain ⟨w2,rfl⟩:=nm w';have hg5:g<w2.heap.size:=(by omega);have hg6:g<w2.heap.size+1:=(by omega))
 refine wp_loop_rounds 2 ?_
 rw [rounds_succ]
 go_wp2
 (refine m9 ?_;intro w' hb;replace hb:=mU;obtain ⟨hcell,hfroz,hz,_⟩:=mB)
 have a0:=cq w' (w1.heap.size+1) 0 0
 have a1:=cq w' (w1.heap.size+1) 1 0
 have b0:=cq w' w2.heap.size 0 0
 have b1:=cq w' w2.heap.size 1 0
 have c0:=cq w' w1.heap.size 0 (-10800000)
 have c1:=cq w' w1.heap.size 1 10800000
 have cf:∀o,w'.frozen? ⟨w1.heap.size,o,none⟩=false:=by intro o;simp [go_sem, *]
 have d0:=cq w' w.heap.size 0 0
 have d1:=cq w' w.heap.size 1 0
 have df:∀o,w'.frozen? ⟨w.heap.size,o,none⟩=false:=by intro o;simp [go_sem, *]
 have hw0:Below w.heap.size w w':=bw
 have g1:w.heap.size<w1.heap.size:=by omega
 have g2:w1.heap.size+1<w2.heap.size:=by omega
 clear hcell hfroz hz hb
 obtain ⟨V0,rfl⟩:=nm w'
 have g3:w2.heap.size<V0.heap.size:=World.block_lt_of_cell? _ _ b0
 have g4:w1.heap.size<V0.heap.size:=by omega
 have g5:w1.heap.size+1<V0.heap.size:=by omega
 have g6:w.heap.size<V0.heap.size:=by omega
 have m0:max (0:Int) 0=0:=by decide
 refine wp_region_quiet_below (by kernel_rfl) (by kernel_rfl) ?_
 repeat (first|go_big_quiet_step ((go_at_call 302;(with_reducible exact Calls.regrown_of (Y.out _))))|quiet_step ((go_at_call 302;(with_reducible exact Calls.regrown_of (Y.out _)))))
 refine wpQuiet_nil ?_;intro w' hw';have hb:=i8 hw';clear hw';replace hb:=mU;obtain ⟨hcell,hfroz,hz,_⟩:=mB
 have a0:=cell_later hb a0
 have a1:=cell_later hb a1
 have c0:=cell_later hb c0
 have c1:=cell_later hb c1
 have cf:∀o,w'.frozen? ⟨w1.heap.size,o,none⟩=false:=by intro o;simp [go_sem, *]
 have d0:=cell_later hb d0
 have d1:=cell_later hb d1
 have df:∀o,w'.frozen? ⟨w.heap.size,o,none⟩=false:=by intro o;simp [go_sem, *]
 have hw1:Below w.heap.size w w':=bw
 clear hcell hfroz hz hb b0 b1 hw0 g3 g4 g5 g6
 obtain ⟨V1,rfl⟩:=nm w'
 have g5:w1.heap.size+1<V1.heap.size:=World.block_lt_of_cell? _ _ a0
 have g4:w1.heap.size<V1.heap.size:=by omega
 have g6:w.heap.size<V1.heap.size:=by omega
 have hne:w.heap.size≠w1.heap.size:=by omega
 go_wp2
 rw [rounds_succ]
 go_wp2
 rw [rounds_succ]
 go_wp2
 exact bodyPost_ret (v:= .agg #[.int .i64 0,.int .i64 0]) (by first|(simp only [results,Tryz.results301];go_simp;done)|simp [results,Tryz.results301,go_sem, *]) rfl ⟨rfl,bw⟩
set_option maxRecDepth 100000 in
set_option maxHeartbeats 4000000 in
theorem FX (c d f:Int) (w:World) (h0: -10800000<=c) (hc:c<0) (h1:0<=d) (h2:d<=10800000) (hn:¬(c= -10800000/\d=10800000)) (hf:(c-0)%21600000=f):
  Calls Tryz.prog 300 #[.agg #[.int .i64 0,.int .i64 0],.agg #[.int .i64 c,.int .i64 d]] w fun e w'=>∃v,e= .returned v/\w'.ownsRow w.heap.size 23 2 v 1 [.int .i64 0,.int .i64 0]/\Below w.heap.size w w':=by
 have A:=b6 fun w=>iH 0 0 w (by omega)
 have B:=b6 fun w=>iH c d w (by omega)
 have Y:=b6 fun w=>fI 0 0 c f w (by omega) (by omega) hf
 have S:=b6 fun w=>(by have:=cF 0 w (by decide) (by decide);exact this:Calls Tryz.prog 21 #[.int .i64 0] w fun e w'=>e= .returned (.int .i64 0)/\w=w')
 obtain ⟨i0,hi,hz0,hz1,hz2⟩:=V9 HG
 go_enter Tryz.func300,Tryz.ntmps300
 go_upto_region 6 with (first|(go_at_call 252;((with_reducible refine am (A.out _) ?_);intro w' hb);replace hb:=mU;obtain ⟨hcell,hfroz,hz,_⟩:=mB;obtain ⟨w1,rfl⟩:=nm w')|(go_at_call 252;((with_reducible refine am (B.out _) ?_);intro w' hb);replace hb:=mU;obtain ⟨hcell,hfroz,hz,_⟩:=mB;obtain ⟨w2,rfl⟩:=nm w'))
 (refine m9 ?_;intro w' hb;replace hb:=mU;obtain ⟨hcell,hfroz,hz,_⟩:=mB)
 have p0:=cq w' w.heap.size 0 0
 have p1:=cq w' w.heap.size 1 0
 have q0:=cq w' (w.heap.size+1) 0 c
 have q1:=cq w' (w.heap.size+1) 1 d
 have hw0:Below w.heap.size w w':=bw
 clear hcell hfroz hz hb
 obtain ⟨V0,rfl⟩:=nm w'
 have g1:w.heap.size+1<V0.heap.size:=World.block_lt_of_cell? _ _ q0
 have g0:w.heap.size<V0.heap.size:=by omega
 refine wp_region_quiet_below (by kernel_rfl) (by kernel_rfl) ?_
 repeat (first|go_big_quiet_step ((go_at_call 302;(with_reducible exact Calls.regrown_of (Y.out _))))|quiet_step ((go_at_call 302;(with_reducible exact Calls.regrown_of (Y.out _)))))
 refine wpQuiet_nil ?_;intro w' hw';have hb:=i8 hw';clear hw';replace hb:=mU;obtain ⟨hcell,hfroz,hz,_⟩:=mB
 have p0:=cq w' w.heap.size 0 0
 have p1:=cq w' w.heap.size 1 0
 have q0:=cq w' (w.heap.size+1) 0 c
 have q1:=cq w' (w.heap.size+1) 1 d
 have hw1:Below w.heap.size w w':=bw
 clear hcell hfroz hz hb hw0
 obtain ⟨V1,rfl⟩:=nm w'
 have g1:w.heap.size+1<V1.heap.size:=World.block_lt_of_cell? _ _ q0
 have g0:w.heap.size<V1.heap.size:=by omega
 have ix0:=fun w=>UG (f) (f-21600000) w
 have ix1:=fun w=>TQ (f) (f-21600000) w
 have f0:f=c+21600000:=by omega
 have f1:0<=f:=by omega
 have f2:f<=21600000:=by omega
 have f3:0<f:=by omega
 have f4:f-21600000<=0:=by omega
 have f5:¬0<f-21600000:=by omega
 have m2:0<=f+d-c:=by omega
 have m3:decide (f<=0)=false:=by simp;omega
 have m5:0<=f-21600000+d-c:=by omega
 clear hn hf f0
 go_wp2
 refine wp_loop_rounds 3 ?_
 rw [rounds_succ]
 go_wp2
 go_region
 go_wp2
 refine o7 (F:=Code.rounds _ _ _ _ _) ?_
 intro w' hb
 replace hb:=mU;obtain ⟨hcell,hfroz,hz,_⟩:=mB
 have p0:w'.cell? ⟨w.heap.size,0,none⟩=some (.int .i64 0):=cell_later hb p0
 have p1:w'.cell? ⟨w.heap.size,1,none⟩=some (.int .i64 0):=cell_later hb p1
 have q0:w'.cell? ⟨w.heap.size+1,0,none⟩=some (.int .i64 c):=cell_later hb q0
 have q1:w'.cell? ⟨w.heap.size+1,1,none⟩=some (.int .i64 d):=cell_later hb q1
 have hw2:Below w.heap.size w w':=bw
 clear hcell hfroz hz hb hw1
 obtain ⟨V2,rfl⟩:=nm w'
 have g1:w.heap.size+1<V2.heap.size:=World.block_lt_of_cell? _ _ q0
 have g0:w.heap.size<V2.heap.size:=by omega
 rw [rounds_succ]
 go_wp2
 go_region
 have n0:V2.drew.ownsRow V2.heap.size 23 2 (.slice none 0 0) 0 []:=World.ownsRow_nil _ _ _ _
 have nb:Below V2.heap.size V2 V2.drew:=bw
 go_wp2_with (first|(go_at_call 21;((with_reducible refine am (S.out _) ?_);rintro w' rfl))|(at_builtin;refine wpList_append_own_at _ rfl _ _ 177 rfl V2.heap.size 23 i0 (.agg #[.int .i64 0,.int .i64 0]) 2 16 Tryz.underlying177 hi hz0 hz1 hz2 rfl (by decide) _ 0 _ rfl (n0.alloc _) ⟨V2.drew.heap.size,0,none⟩ 1 1 [.int .i64 0,.int .i64 0] rfl rfl (wB _ _ _ _) (EB _ _) (by decide) (by decide) (by simp) ?_;intro v' w' hown hg _ _))
 have hbA:Below V2.heap.size V2 w':=XG nb n0 hg
 have own2:w'.ownsRow w.heap.size 23 2 v' 1 [.int .i64 0,.int .i64 0]:=qW (by omega) hown
 clear hg n0 nb hown
 rw [rounds_succ]
 go_wp2
 exact bodyPost_ret (v:=v') (by first|(simp only [results,Tryz.results300];go_simp;done)|simp [results,Tryz.results300,go_sem, *]) rfl ⟨v',rfl,own2,Below.trans hw2 (hbA.mono (by omega))⟩
theorem JQ {w:World} {base:Nat} {e:TypeId} {v x y:Value} (h:w.ownsRow base e 2 v 1 [x,y]):∃g cap,v= .slice (some ⟨g,0,none⟩) 1 cap/\base<=g/\w.cell? ⟨g,0,none⟩=some x/\w.cell? ⟨g,1,none⟩=some y:=by
 obtain ⟨_,h|⟨g,cap,cur,rfl,h2,h3,h4⟩⟩:=h
 ·exact absurd h.2 (by decide)
 ·have H:w.ownsRow base e 2 (.slice (some ⟨g,0,none⟩) 1 cap) 1 [x,y]:=⟨by simp,.inr ⟨g,cap,cur,rfl,h2,h3,h4⟩⟩
  exact ⟨g,cap,rfl,h2,by simpa using H.cellAt 0 (by decide),by simpa using H.cellAt 1 (by decide)⟩
def a3i (v:Value) (w w':World):Prop:=∃g cap,v= .slice (some ⟨g,0,none⟩) 1 cap/\w.heap.size<=g/\w'.cell? ⟨g,0,none⟩=some (.int .i64 0)/\w'.cell? ⟨g,1,none⟩=some (.int .i64 0)
theorem JF (c d:Int) (w:World) (h0: -10800000<=c) (hc:c<=0) (h1:0<=d) (h2:d<=10800000) (hn:¬(c= -10800000/\d=10800000)):
  Calls Tryz.prog 300 #[.agg #[.int .i64 0,.int .i64 0],.agg #[.int .i64 c,.int .i64 d]] w fun e w'=>∃v,e= .returned v/\a3i v w w'/\Below w.heap.size w w':=by
 by_cases z:c=0
 ·subst z
  refine (LU d w h1 h2).mono ?_
  rintro e w' ⟨v,he,hr,hb⟩
  obtain ⟨g,cap,e1,e2,e3,e4⟩:=JQ hr
  exact ⟨v,he,⟨g,cap,e1,e2,e3,e4⟩,hb⟩
 ·refine (FX c d _ w h0 (by omega) h1 h2 hn rfl).mono ?_
  rintro e w' ⟨v,he,hr,hb⟩
  obtain ⟨g,cap,e1,e2,e3,e4⟩:=JQ hr
  exact ⟨v,he,⟨g,cap,e1,e2,e3,e4⟩,hb⟩
theorem pD {w:World} {B i d:Nat} {os:Array Obj} {x:Value} (h:w.cell? ⟨B,i,none⟩=some x):(Go.Sort.grow (redrawn w d) os).cell? ⟨B,i,none⟩=some x:=
 ((below_regrown w d os).cell (p:=⟨B,i,none⟩) (World.block_lt_of_cell? _ _ h)).trans h
set_option maxRecDepth 100000 in
set_option maxHeartbeats 4000000 in
theorem PY (a b c d:Int) (w:World) (l1: -5400000<=a) (l2:a<=0) (l3:0<=b) (l4:b<=5400000) (h0: -10800000<=c) (hc:c<=0) (h1:0<=d) (h2:d<=10800000) (hn:¬(c= -10800000/\d=10800000)):
  Calls Tryz.prog 260 #[.agg #[.int .i64 0,.int .i64 0,.int .i64 0,.int .i64 0],.agg #[.int .i64 a,.int .i64 b,.int .i64 c,.int .i64 d]] w fun e w'=>e= .returned (.tuple #[.agg #[.int .i64 0,.int .i64 0,.int .i64 0,.int .i64 0],.int .i64 0])/\Below w.heap.size w w':=by
 have V1:=b6 fun w=>O5 0 0 0 0 w (by omega) (by omega) (by omega) (by omega) (by omega) (by omega) (by omega) (by omega)
 have V2:=b6 fun w=>O5 a b c d w hn (by omega) (by omega) (by omega) (by omega) (by omega) (by omega) (by omega)
 have C:=b6 fun w=>JF c d w h0 hc h1 h2 hn
 have R:=b6 fun g cap w=>FV g cap w
 have m1:max 0 a=0:=by omega
 have m2:min 0 b=0:=by omega
 have M1:=b6 m1
 have M2:=b6 m2
 have k1:¬0<a:=by omega
 have k2:¬b<0:=by omega
 clear hn m1 m2
 go_enter Tryz.func260,Tryz.ntmps260
 go_upto_region 4 with (first|(go_at_call 111;((with_reducible refine am (V1.out _) ?_);intro w' hb);replace hb:=mU;obtain ⟨hcell,hfroz,hz,_⟩:=mB;obtain ⟨w1,rfl⟩:=nm w')|(go_at_call 111;((with_reducible refine am (V2.out _) ?_);intro w' hb);replace hb:=mU;obtain ⟨hcell,hfroz,hz,_⟩:=mB;obtain ⟨w2,rfl⟩:=nm w'))
 go_wp2_with (go_at_call 300;((with_reducible refine (C.out _).mono ?_);rintro e w' ⟨v,rfl,⟨g,cap,rfl,hg,cg0,cg1⟩,hb⟩);replace hb:=mU;obtain ⟨hcell,hfroz,hz,_⟩:=mB;obtain ⟨w3,rfl⟩:=nm w')
 (refine m9 ?_;intro w' hb;replace hb:=mU;obtain ⟨hcell,hfroz,hz,_⟩:=mB)
 have p0:=cq w' w2.heap.size 0 0
 have p1:=cq w' w2.heap.size 1 0
 have r0:=cq w' (w.heap.size+1+1) 0 0
 have r1:=cq w' (w.heap.size+1+1) 1 0
 have r2:=cq w' (w.heap.size+1+1) 2 0
 have r3:=cq w' (w.heap.size+1+1) 3 0
 have rf:∀o,w'.frozen? ⟨w.heap.size+1+1,o,none⟩=false:=by intro o;simp [go_sem, *]
 have q0:w'.cell? ⟨g,0,none⟩=some (.int .i64 0):=cell_later hb cg0
 have q1:w'.cell? ⟨g,1,none⟩=some (.int .i64 0):=cell_later hb cg1
 have hw0:Below w.heap.size w w':=bw
 have hzg:w.heap.size+1+1<w2.heap.size:=by omega
 clear hcell hfroz hz hb cg0 cg1
 obtain ⟨V0,rfl⟩:=nm w'
 have g3:w.heap.size+1+1<V0.heap.size:=World.block_lt_of_cell? _ _ r0
 have g4:w2.heap.size<V0.heap.size:=World.block_lt_of_cell? _ _ p0
 refine n9 4 (by kernel_rfl) (by kernel_rfl) ?_
 simp only [List.take_succ_cons,List.take_zero,List.drop_succ_cons,List.drop_zero]
 repeat (first|go_big_quiet_step ((go_at_call 301;(with_reducible exact Calls.regrown_of (R.out _ _ _ (pD q0) (pD q1)))))|quiet_step ((go_at_call 301;(with_reducible exact Calls.regrown_of (R.out _ _ _ (pD q0) (pD q1))))))
 refine wpQuiet_nil ?_;intro w' hw';have hb:=i8 hw';clear hw';replace hb:=mU;obtain ⟨hcell,hfroz,hz,_⟩:=mB
 go_wp2
 exact bodyPost_ret (v:= .tuple #[.agg #[.int .i64 0,.int .i64 0,.int .i64 0,.int .i64 0],.int .i64 0]) (by first|(simp only [results,Tryz.results260];go_simp;done)|simp [results,Tryz.results260,go_sem, *]) rfl ⟨rfl,bw⟩
set_option maxRecDepth 100000 in
set_option maxHeartbeats 4000000 in
theorem QD (a b c d:Int) (w:World) (l0:a<=b) (l1: -5400000<=a) (l4:b<=5400000) (hl:0<a\/b<0) (h0: -10800000<=c) (hc:c<=d) (h3:c<10800000) (h2:d<=10800000) (hn:¬(c= -10800000/\d=10800000))
  (C:Hid (∀w,Calls Tryz.prog 300 #[.agg #[.int .i64 0,.int .i64 0],.agg #[.int .i64 c,.int .i64 d]] w fun e w'=>∃v,e= .returned v/\(a3i v w w'\/v= .slice none 0 0)/\Below w.heap.size w w')):
  Calls Tryz.prog 260 #[.agg #[.int .i64 0,.int .i64 0,.int .i64 0,.int .i64 0],.agg #[.int .i64 a,.int .i64 b,.int .i64 c,.int .i64 d]] w fun e w'=>e= .returned (.tuple #[.agg #[.int .i64 0,.int .i64 0,.int .i64 0,.int .i64 0],.int .i64 23])/\Below w.heap.size w w':=by
 have V1:=b6 fun w=>O5 0 0 0 0 w (by omega) (by omega) (by omega) (by omega) (by omega) (by omega) (by omega) (by omega)
 have V2:=b6 fun w=>O5 a b c d w hn (by omega) (by omega) (by omega) (by omega) (by omega) (by omega) (by omega)
 clear hn
 rcases hl with hl|hl
 ·have k2:¬b<0:=by omega
  go_enter Tryz.func260,Tryz.ntmps260
  go_upto_region 4 with (first|(go_at_call 111;((with_reducible refine am (V1.out _) ?_);intro w' hb);replace hb:=mU;obtain ⟨hcell,hfroz,hz,_⟩:=mB;obtain ⟨w1,rfl⟩:=nm w')|(go_at_call 111;((with_reducible refine am (V2.out _) ?_);intro w' hb);replace hb:=mU;obtain ⟨hcell,hfroz,hz,_⟩:=mB;obtain ⟨w2,rfl⟩:=nm w'))
  go_wp2_with (go_at_call 300;((with_reducible refine (C.out _).mono ?_);rintro e w' ⟨v,rfl,_,hb⟩);replace hb:=mU;obtain ⟨hcell,hfroz,hz,_⟩:=mB;obtain ⟨w3,rfl⟩:=nm w')
  exact bodyPost_ret (v:= .tuple #[.agg #[.int .i64 0,.int .i64 0,.int .i64 0,.int .i64 0],.int .i64 23]) (by first|(simp only [results,Tryz.results260];go_simp;done)|simp [results,Tryz.results260,go_sem, *]) rfl ⟨rfl,bw⟩
 ·have k1:¬0<a:=by omega
  go_enter Tryz.func260,Tryz.ntmps260
  go_upto_region 4 with (first|(go_at_call 111;((with_reducible refine am (V1.out _) ?_);intro w' hb);replace hb:=mU;obtain ⟨hcell,hfroz,hz,_⟩:=mB;obtain ⟨w1,rfl⟩:=nm w')|(go_at_call 111;((with_reducible refine am (V2.out _) ?_);intro w' hb);replace hb:=mU;obtain ⟨hcell,hfroz,hz,_⟩:=mB;obtain ⟨w2,rfl⟩:=nm w'))
  go_wp2_with (go_at_call 300;((with_reducible refine (C.out _).mono ?_);rintro e w' ⟨v,rfl,_,hb⟩);replace hb:=mU;obtain ⟨hcell,hfroz,hz,_⟩:=mB;obtain ⟨w3,rfl⟩:=nm w')
  exact bodyPost_ret (v:= .tuple #[.agg #[.int .i64 0,.int .i64 0,.int .i64 0,.int .i64 0],.int .i64 23]) (by first|(simp only [results,Tryz.results260];go_simp;done)|simp [results,Tryz.results260,go_sem, *]) rfl ⟨rfl,bw⟩
set_option maxRecDepth 100000 in
set_option maxHeartbeats 4000000 in
theorem RX (a b c d:Int) (w:World) (l1: -5400000<=a) (l2:a<=0) (l3:0<=b) (l4:b<=5400000) (h0: -10800000<=c) (hc:c<=d) (h3:c<10800000) (h2:d<=10800000) (hl:0<c\/d<0):
  Calls Tryz.prog 260 #[.agg #[.int .i64 0,.int .i64 0,.int .i64 0,.int .i64 0],.agg #[.int .i64 a,.int .i64 b,.int .i64 c,.int .i64 d]] w fun e w'=>e= .returned (.tuple #[.agg #[.int .i64 0,.int .i64 0,.int .i64 0,.int .i64 0],.int .i64 23])/\Below w.heap.size w w':=by
 have V1:=b6 fun w=>O5 0 0 0 0 w (by omega) (by omega) (by omega) (by omega) (by omega) (by omega) (by omega) (by omega)
 have V2:=b6 fun w=>O5 a b c d w (by omega) (by omega) (by omega) (by omega) (by omega) (by omega) (by omega) (by omega)
 have C:=b6 fun w=>zQ c d _ w h0 hc h2 (by omega) rfl
 have k1:¬0<a:=by omega
 have k2:¬b<0:=by omega
 clear hl
 go_enter Tryz.func260,Tryz.ntmps260
 go_upto_region 4 with (first|(go_at_call 111;((with_reducible refine am (V1.out _) ?_);intro w' hb);replace hb:=mU;obtain ⟨hcell,hfroz,hz,_⟩:=mB;obtain ⟨w1,rfl⟩:=nm w')|(go_at_call 111;((with_reducible refine am (V2.out _) ?_);intro w' hb);replace hb:=mU;obtain ⟨hcell,hfroz,hz,_⟩:=mB;obtain ⟨w2,rfl⟩:=nm w'))
 go_wp2_with (go_at_call 300;((with_reducible refine am (C.out _) ?_);intro w' hb);replace hb:=mU;obtain ⟨hcell,hfroz,hz,_⟩:=mB;obtain ⟨w3,rfl⟩:=nm w')
 exact bodyPost_ret (v:= .tuple #[.agg #[.int .i64 0,.int .i64 0,.int .i64 0,.int .i64 0],.int .i64 23]) (by first|(simp only [results,Tryz.results260];go_simp;done)|simp [results,Tryz.results260,go_sem, *]) rfl ⟨rfl,bw⟩
theorem mX (a b c d x:Int) (B:Bool) (w:World) (hx:(x==0)=B)
  (M:CB 260 #[.agg #[.int .i64 0,.int .i64 0,.int .i64 0,.int .i64 0],.agg #[.int .i64 a,.int .i64 b,.int .i64 c,.int .i64 d]] (.tuple #[.agg #[.int .i64 0,.int .i64 0,.int .i64 0,.int .i64 0],.int .i64 x])):
  Calls Tryz.prog 205 #[.agg #[.int .i64 0,.int .i64 0,.int .i64 0,.int .i64 0],.agg #[.int .i64 a,.int .i64 b,.int .i64 c,.int .i64 d]] w fun e w'=>e= .returned (.bool B)/\Below w.heap.size w w':=by
 go_enter Tryz.func205,Tryz.ntmps205
 go_wp2_with (go_at_call 260;((with_reducible refine am (M.out _) ?_);intro w' hb);replace hb:=mU;obtain ⟨hcell,hfroz,hz,_⟩:=mB;obtain ⟨w1,rfl⟩:=nm w')
 go_ret
 exact ⟨rfl,bw⟩
def xY (a b c d:Int):Bool:=decide (a<=0)&&decide (0<=b)&&(decide (c<=0)&&decide (0<=d))
theorem DF (a b c d:Int) (w:World) (l0:a<=b) (l1: -5400000<=a) (l4:b<=5400000) (h0: -10800000<=c) (hc:c<=d) (h3:c<10800000) (h2:d<=10800000) (hn:¬(c= -10800000/\d=10800000)):
  Calls Tryz.prog 205 #[.agg #[.int .i64 0,.int .i64 0,.int .i64 0,.int .i64 0],.agg #[.int .i64 a,.int .i64 b,.int .i64 c,.int .i64 d]] w fun e w'=>e= .returned (.bool (xY a b c d))/\Below w.heap.size w w':=by
 by_cases hl:a<=0/\0<=b
 ·by_cases ho:c<=0/\0<=d
  ·have e:xY a b c d=true:=by unfold xY;simp;omega
   rw [e]
   exact mX a b c d 0 true w rfl (b6 fun w=>PY a b c d w l1 hl.1 hl.2 l4 h0 ho.1 ho.2 h2 hn)
  ·have e:xY a b c d=false:=by unfold xY;simp;omega
   rw [e]
   exact mX a b c d 23 false w rfl (b6 fun w=>RX a b c d w l1 hl.1 hl.2 l4 h0 hc h3 h2 (by omega))
 ·have e:xY a b c d=false:=by unfold xY;simp;omega
  rw [e]
  refine mX a b c d 23 false w rfl (b6 fun w=>QD a b c d w l0 l1 l4 (by omega) h0 hc h3 h2 hn (b6 fun w=> ?_))
  by_cases ho:c<=0/\0<=d
  ·refine (JF c d w h0 ho.1 ho.2 h2 hn).mono ?_
   rintro e w' ⟨v,he,hv,hb⟩
   exact ⟨v,he,.inl hv,hb⟩
  ·refine (zQ c d _ w h0 hc h2 (by omega) rfl).mono ?_
   rintro e w' ⟨he,hb⟩
   exact ⟨_,he,.inr rfl,hb⟩
set_option maxHeartbeats 1000000 in
theorem NH (a b c d:Int) (w:World) (l0:a<b) (l1: -5400000<=a) (l4:b<=5400000) (h0: -10800000<=c) (hc:c<=d) (h3:c<10800000) (h2:d<=10800000) (hn:¬(c= -10800000/\d=10800000)):
  Calls Tryz.prog 206 #[.agg #[.int .i64 a,.int .i64 b,.int .i64 c,.int .i64 d],.agg #[.int .i64 0,.int .i64 0,.int .i64 0,.int .i64 0]] w fun e w'=>e= .returned (.bool false)/\Below w.heap.size w w':=by
 have V1:=b6 fun w=>O5 0 0 0 0 w (by omega) (by omega) (by omega) (by omega) (by omega) (by omega) (by omega) (by omega)
 have V2:=b6 fun w=>O5 a b c d w hn (by omega) (by omega) (by omega) (by omega) (by omega) (by omega) (by omega)
 clear hn
 by_cases ha:0<=a
 ·have hb:decide (b<=0)=false:=by simp;omega
  go_enter Tryz.func206,Tryz.ntmps206
  go_wp2_with (first|(go_at_call 111;((with_reducible refine am (V1.out _) ?_);intro w' hb);replace hb:=mU;obtain ⟨hcell,hfroz,hz,_⟩:=mB;obtain ⟨w1,rfl⟩:=nm w')|(go_at_call 111;((with_reducible refine am (V2.out _) ?_);intro w' hb);replace hb:=mU;obtain ⟨hcell,hfroz,hz,_⟩:=mB;obtain ⟨w2,rfl⟩:=nm w'))
  go_ret
  exact ⟨rfl,bw⟩
 ·have hb:decide (0<=a)=false:=by simp;omega
  go_enter Tryz.func206,Tryz.ntmps206
  go_wp2_with (first|(go_at_call 111;((with_reducible refine am (V1.out _) ?_);intro w' hb);replace hb:=mU;obtain ⟨hcell,hfroz,hz,_⟩:=mB;obtain ⟨w1,rfl⟩:=nm w')|(go_at_call 111;((with_reducible refine am (V2.out _) ?_);intro w' hb);replace hb:=mU;obtain ⟨hcell,hfroz,hz,_⟩:=mB;obtain ⟨w2,rfl⟩:=nm w'))
  go_ret
  exact ⟨rfl,bw⟩
end Go.Proofs.YtdhbeoahpfimbaaGreat
