/- Part of the proof of TopDistances. -/
import Derived.Test.YtdhbeoahpfimbaaGreatAd
namespace Go.Proofs.YtdhbeoahpfimbaaGreat
open Go.RowKit
set_option maxRecDepth 100000 in
set_option maxHeartbeats 4000000 in
theorem ND (a0 a1 a2 a3 b0 b1 b2 b3 d0 d1 d2 d3 o0 o1 o2 o3:Int) (w:World)
  (h3:∀w,(callFunc 309 #[.int .u64 a3,.int .u64 b3,.int .u64 0]).run Tryz.prog w= .ok (.value (.tuple #[.int .u64 d3,.int .u64 o3])) w)
  (h2:∀w,(callFunc 309 #[.int .u64 a2,.int .u64 b2,.int .u64 o3]).run Tryz.prog w= .ok (.value (.tuple #[.int .u64 d2,.int .u64 o2])) w)
  (h1:∀w,(callFunc 309 #[.int .u64 a1,.int .u64 b1,.int .u64 o2]).run Tryz.prog w= .ok (.value (.tuple #[.int .u64 d1,.int .u64 o1])) w)
  (h0:∀w,(callFunc 309 #[.int .u64 a0,.int .u64 b0,.int .u64 o1]).run Tryz.prog w= .ok (.value (.tuple #[.int .u64 d0,.int .u64 o0])) w)
  :Calls Tryz.prog 315 #[.agg #[.int .u64 a3,.int .u64 a2,.int .u64 a1,.int .u64 a0],.agg #[.int .u64 b3,.int .u64 b2,.int .u64 b1,.int .u64 b0]] w fun e w'=>e= .returned (.agg #[.int .u64 d3,.int .u64 d2,.int .u64 d1,.int .u64 d0])/\Below w.heap.size w w':=by
 go_enter Tryz.func315,Tryz.ntmps315
 go_wp2
 refine wp_loop_rounds 5 ?_
 rw [rounds_succ]
 go_wp2
 go_region
 go_wp2
 rw [rounds_succ]
 go_wp2
 go_region
 go_wp2
 rw [rounds_succ]
 go_wp2
 go_region
 go_wp2
 rw [rounds_succ]
 go_wp2
 go_region
 go_wp2
 rw [rounds_succ]
 go_wp2
 exact bodyPost_ret (v:= .agg #[.int .u64 d3,.int .u64 d2,.int .u64 d1,.int .u64 d0]) (by first|(simp only [results,Tryz.results315];go_simp;done)|simp [results,Tryz.results315,go_sem, *]) rfl ⟨rfl,bv⟩
set_option maxRecDepth 100000 in
set_option maxHeartbeats 4000000 in
theorem NF (a0 a1 a2 a3 b0 b1 b2 b3 d0 d1 d2 d3 o0 o1 o2 o3:Int) (w:World)
  (h3:∀w,(callFunc 344 #[.int .u64 a3,.int .u64 b3,.int .u64 0]).run Tryz.prog w= .ok (.value (.tuple #[.int .u64 d3,.int .u64 o3])) w)
  (h2:∀w,(callFunc 344 #[.int .u64 a2,.int .u64 b2,.int .u64 o3]).run Tryz.prog w= .ok (.value (.tuple #[.int .u64 d2,.int .u64 o2])) w)
  (h1:∀w,(callFunc 344 #[.int .u64 a1,.int .u64 b1,.int .u64 o2]).run Tryz.prog w= .ok (.value (.tuple #[.int .u64 d1,.int .u64 o1])) w)
  (h0:∀w,(callFunc 344 #[.int .u64 a0,.int .u64 b0,.int .u64 o1]).run Tryz.prog w= .ok (.value (.tuple #[.int .u64 d0,.int .u64 o0])) w)
  :Calls Tryz.prog 317 #[.agg #[.int .u64 a3,.int .u64 a2,.int .u64 a1,.int .u64 a0],.agg #[.int .u64 b3,.int .u64 b2,.int .u64 b1,.int .u64 b0]] w fun e w'=>e= .returned (.agg #[.int .u64 d3,.int .u64 d2,.int .u64 d1,.int .u64 d0])/\Below w.heap.size w w':=by
 go_enter Tryz.func317,Tryz.ntmps317
 go_wp2
 refine wp_loop_rounds 5 ?_
 rw [rounds_succ]
 go_wp2
 go_region
 go_wp2
 rw [rounds_succ]
 go_wp2
 go_region
 go_wp2
 rw [rounds_succ]
 go_wp2
 go_region
 go_wp2
 rw [rounds_succ]
 go_wp2
 go_region
 go_wp2
 rw [rounds_succ]
 go_wp2
 exact bodyPost_ret (v:= .agg #[.int .u64 d3,.int .u64 d2,.int .u64 d1,.int .u64 d0]) (by first|(simp only [results,Tryz.results317];go_simp;done)|simp [results,Tryz.results317,go_sem, *]) rfl ⟨rfl,bv⟩
set_option maxRecDepth 100000 in
set_option maxHeartbeats 4000000 in
theorem yK (a0 a1 a2 a3 n h3 l3 s3 c3 t3 h2 l2 s2 c2 t2 h1 l1 s1 c1 t1 h0 l0 s0 c0 t0:Int) (w:World)
  (M3:Hid (∀w,Calls Tryz.prog 109 #[.int .u64 a3,.int .u64 n] w fun e w'=>e= .returned (.tuple #[.int .u64 h3,.int .u64 l3])/\w=w'))
  (A3:∀w,(callFunc 309 #[.int .u64 l3,.int .u64 0,.int .u64 0]).run Tryz.prog w= .ok (.value (.tuple #[.int .u64 s3,.int .u64 c3])) w) (W3:IntKind.u64.wrap (h3+c3)=t3)
  (M2:Hid (∀w,Calls Tryz.prog 109 #[.int .u64 a2,.int .u64 n] w fun e w'=>e= .returned (.tuple #[.int .u64 h2,.int .u64 l2])/\w=w'))
  (A2:∀w,(callFunc 309 #[.int .u64 l2,.int .u64 t3,.int .u64 0]).run Tryz.prog w= .ok (.value (.tuple #[.int .u64 s2,.int .u64 c2])) w) (W2:IntKind.u64.wrap (h2+c2)=t2)
  (M1:Hid (∀w,Calls Tryz.prog 109 #[.int .u64 a1,.int .u64 n] w fun e w'=>e= .returned (.tuple #[.int .u64 h1,.int .u64 l1])/\w=w'))
  (A1:∀w,(callFunc 309 #[.int .u64 l1,.int .u64 t2,.int .u64 0]).run Tryz.prog w= .ok (.value (.tuple #[.int .u64 s1,.int .u64 c1])) w) (W1:IntKind.u64.wrap (h1+c1)=t1)
  (M0:Hid (∀w,Calls Tryz.prog 109 #[.int .u64 a0,.int .u64 n] w fun e w'=>e= .returned (.tuple #[.int .u64 h0,.int .u64 l0])/\w=w'))
  (A0:∀w,(callFunc 309 #[.int .u64 l0,.int .u64 t1,.int .u64 0]).run Tryz.prog w= .ok (.value (.tuple #[.int .u64 s0,.int .u64 c0])) w) (W0:IntKind.u64.wrap (h0+c0)=t0)
  :Calls Tryz.prog 322 #[.agg #[.int .u64 a3,.int .u64 a2,.int .u64 a1,.int .u64 a0],.int .u64 n] w fun e w'=>e= .returned (.agg #[.int .u64 s3,.int .u64 s2,.int .u64 s1,.int .u64 s0])/\Below w.heap.size w w':=by
 go_enter Tryz.func322,Tryz.ntmps322
 go_wp2
 refine wp_loop_rounds 5 ?_
 rw [rounds_succ]
 go_wp2_with (go_at_call 109;((with_reducible refine am (M3.out _) ?_);rintro w' rfl))
 rw [rounds_succ]
 go_wp2_with (go_at_call 109;((with_reducible refine am (M2.out _) ?_);rintro w' rfl))
 rw [rounds_succ]
 go_wp2_with (go_at_call 109;((with_reducible refine am (M1.out _) ?_);rintro w' rfl))
 rw [rounds_succ]
 go_wp2_with (go_at_call 109;((with_reducible refine am (M0.out _) ?_);rintro w' rfl))
 rw [rounds_succ]
 go_wp2
 exact bodyPost_ret (v:= .agg #[.int .u64 s3,.int .u64 s2,.int .u64 s1,.int .u64 s0]) (by first|(simp only [results,Tryz.results322];go_simp;done)|simp [results,Tryz.results322,go_sem, *]) rfl ⟨rfl,bv⟩
set_option maxRecDepth 100000 in
set_option maxHeartbeats 4000000 in
theorem EW (a0 a1 a2 a3 d q0 q1 q2 q3 r0 r1 r2 r3:Int) (w:World)
  (h0:CB 110 #[.int .u64 0,.int .u64 a0,.int .u64 d] (.tuple #[.int .u64 q0,.int .u64 r0]))
  (h1:CB 110 #[.int .u64 r0,.int .u64 a1,.int .u64 d] (.tuple #[.int .u64 q1,.int .u64 r1]))
  (h2:CB 110 #[.int .u64 r1,.int .u64 a2,.int .u64 d] (.tuple #[.int .u64 q2,.int .u64 r2]))
  (h3:CB 110 #[.int .u64 r2,.int .u64 a3,.int .u64 d] (.tuple #[.int .u64 q3,.int .u64 r3]))
  :Calls Tryz.prog 320 #[.agg #[.int .u64 a3,.int .u64 a2,.int .u64 a1,.int .u64 a0],.int .u64 d] w fun e w'=>e= .returned (.agg #[.int .u64 q3,.int .u64 q2,.int .u64 q1,.int .u64 q0])/\Below w.heap.size w w':=by
 go_enter Tryz.func320,Tryz.ntmps320
 go_wp2
 refine wp_loop_rounds 5 ?_
 rw [rounds_succ]
 go_wp2_with (go_at_call 110;((with_reducible refine am (h0.out _) ?_);intro w' hb);replace hb:=mU;obtain ⟨hcell,hfroz,hz,_⟩:=mB)
 rw [rounds_succ]
 go_wp2_with (go_at_call 110;((with_reducible refine am (h1.out _) ?_);intro w' hb);replace hb:=mU;obtain ⟨hcell,hfroz,hz,_⟩:=mB)
 rw [rounds_succ]
 go_wp2_with (go_at_call 110;((with_reducible refine am (h2.out _) ?_);intro w' hb);replace hb:=mU;obtain ⟨hcell,hfroz,hz,_⟩:=mB)
 rw [rounds_succ]
 go_wp2_with (go_at_call 110;((with_reducible refine am (h3.out _) ?_);intro w' hb);replace hb:=mU;obtain ⟨hcell,hfroz,hz,_⟩:=mB)
 rw [rounds_succ]
 go_wp2
 exact bodyPost_ret (v:= .agg #[.int .u64 q3,.int .u64 q2,.int .u64 q1,.int .u64 q0]) (by first|(simp only [results,Tryz.results320];go_simp;done)|simp [results,Tryz.results320,go_sem, *]) rfl ⟨rfl,bv⟩
set_option maxRecDepth 100000 in
set_option maxHeartbeats 8000000 in
theorem KW (a0 a1 a2 a3 b0 b1 b2 b3 s1 k1 hi1 lo1 p1 c1 h1 e1 s2 k2 hi2 lo2 p2 c2 h2 e2 s3 k3 hi3 lo3 p3 c3 h3 e3 s4 k4 hi4 lo4 p4 c4 h4 e4 s5 k5 hi5 lo5 p5 c5 h5 e5 s6 k6 hi6 lo6 p6 c6 h6 e6 s7 k7 hi7 lo7 p7 c7 h7 e7 s8 k8 hi8 lo8 p8 c8 h8 e8 s9 k9 hi9 lo9 p9 c9 h9 e9 s10 k10 hi10 lo10 p10 c10 h10 e10 s11 k11 hi11 lo11 p11 c11 h11 e11 s12 k12 hi12 lo12 p12 c12 h12 e12 s13 k13 hi13 lo13 p13 c13 h13 e13 s14 k14 hi14 lo14 p14 c14 h14 e14 s15 k15 hi15 lo15 p15 c15 h15 e15 s16 k16 hi16 lo16 p16 c16 h16 e16:Int) (w:World)
  (S1:I8 a3 b3 0 0 s1 k1 hi1 lo1 p1 c1 h1 e1)
  (S2:I8 a3 b2 0 k1 s2 k2 hi2 lo2 p2 c2 h2 e2)
  (S3:I8 a3 b1 0 k2 s3 k3 hi3 lo3 p3 c3 h3 e3)
  (S4:I8 a3 b0 0 k3 s4 k4 hi4 lo4 p4 c4 h4 e4)
  (S5:I8 a2 b3 s2 0 s5 k5 hi5 lo5 p5 c5 h5 e5)
  (S6:I8 a2 b2 s3 k5 s6 k6 hi6 lo6 p6 c6 h6 e6)
  (S7:I8 a2 b1 s4 k6 s7 k7 hi7 lo7 p7 c7 h7 e7)
  (S8:I8 a2 b0 k4 k7 s8 k8 hi8 lo8 p8 c8 h8 e8)
  (S9:I8 a1 b3 s6 0 s9 k9 hi9 lo9 p9 c9 h9 e9)
  (S10:I8 a1 b2 s7 k9 s10 k10 hi10 lo10 p10 c10 h10 e10)
  (S11:I8 a1 b1 s8 k10 s11 k11 hi11 lo11 p11 c11 h11 e11)
  (S12:I8 a1 b0 k8 k11 s12 k12 hi12 lo12 p12 c12 h12 e12)
  (S13:I8 a0 b3 s10 0 s13 k13 hi13 lo13 p13 c13 h13 e13)
  (S14:I8 a0 b2 s11 k13 s14 k14 hi14 lo14 p14 c14 h14 e14)
  (S15:I8 a0 b1 s12 k14 s15 k15 hi15 lo15 p15 c15 h15 e15)
  (S16:I8 a0 b0 k12 k15 s16 k16 hi16 lo16 p16 c16 h16 e16):
  Calls Tryz.prog 343 #[.agg #[.int .u64 a3,.int .u64 a2,.int .u64 a1,.int .u64 a0],.agg #[.int .u64 b3,.int .u64 b2,.int .u64 b1,.int .u64 b0]] w fun e w'=>e= .returned (.agg #[.int .u64 s13,.int .u64 s14,.int .u64 s15,.int .u64 s16])/\Below w.heap.size w w':=by
 go_enter Tryz.func343,Tryz.ntmps343
 go_upto_region 1 with fail
 (refine m9 ?_;intro w' hb;replace hb:=mU;obtain ⟨hcell,hfroz,hz,_⟩:=mB)
 obtain ⟨w4,rfl⟩:=nm w'
 go_wp2
 (refine m9 ?_;intro w' hb;replace hb:=mU;obtain ⟨hcell,hfroz,hz,_⟩:=mB)
 (try have y4:w4.heap.size<w'.heap.size:=by omega)
 refine wp_loop_rounds 5 ?_
 rw [rounds_succ]
 go_wp2
 refine wp_loop_rounds 5 ?_
 rw [rounds_succ]
 go_wp2
 go_quiet ((go_at_call 109;(with_reducible exact u6 (S1.m _))))
 obtain ⟨w1,rfl⟩:=nm w'
 (refine o7 (F:=Exit.then _ _ _ _) ?_;intro w' hb;replace hb:=mU;obtain ⟨hcell,hfroz,hz,_⟩:=mB)
 have f1:=S1.a1
 have f2:=S1.w1
 have f3:=S1.a2
 have f4:=S1.w2
 go_wp2
 clear f1 f2 f3 f4
 rw [rounds_succ]
 go_wp2
 go_quiet ((go_at_call 109;(with_reducible exact u6 (S2.m _))))
 obtain ⟨w1,rfl⟩:=nm w'
 (refine o7 (F:=Exit.then _ _ _ _) ?_;intro w' hb;replace hb:=mU;obtain ⟨hcell,hfroz,hz,_⟩:=mB)
 have f1:=S2.a1
 have f2:=S2.w1
 have f3:=S2.a2
 have f4:=S2.w2
 go_wp2
 clear f1 f2 f3 f4
 rw [rounds_succ]
 go_wp2
 go_quiet ((go_at_call 109;(with_reducible exact u6 (S3.m _))))
 obtain ⟨w1,rfl⟩:=nm w'
 (refine o7 (F:=Exit.then _ _ _ _) ?_;intro w' hb;replace hb:=mU;obtain ⟨hcell,hfroz,hz,_⟩:=mB)
 have f1:=S3.a1
 have f2:=S3.w1
 have f3:=S3.a2
 have f4:=S3.w2
 go_wp2
 clear f1 f2 f3 f4
 rw [rounds_succ]
 go_wp2
 go_quiet ((go_at_call 109;(with_reducible exact u6 (S4.m _))))
 obtain ⟨w1,rfl⟩:=nm w'
 (refine o7 (F:=Exit.then _ _ _ _) ?_;intro w' hb;replace hb:=mU;obtain ⟨hcell,hfroz,hz,_⟩:=mB)
 have f1:=S4.a1
 have f2:=S4.w1
 have f3:=S4.a2
 have f4:=S4.w2
 go_wp2
 clear f1 f2 f3 f4
 rw [rounds_succ]
 go_wp2
 refine J2 (F:=Code.rounds _ _ _ _ _) (fun wx=>Below w4.heap.size w4 wx/\w4.heap.size<wx.heap.size/\(∀o,wx.frozen? ⟨w4.heap.size,o,none⟩=false)/\wx.cell? ⟨w4.heap.size,7,none⟩=some (.int .u64 0)/\wx.cell? ⟨w4.heap.size,6,none⟩=some (.int .u64 0)/\wx.cell? ⟨w4.heap.size,5,none⟩=some (.int .u64 0)/\wx.cell? ⟨w4.heap.size,4,none⟩=some (.int .u64 k4)/\wx.cell? ⟨w4.heap.size,3,none⟩=some (.int .u64 s4)/\wx.cell? ⟨w4.heap.size,2,none⟩=some (.int .u64 s3)/\wx.cell? ⟨w4.heap.size,1,none⟩=some (.int .u64 s2)/\wx.cell? ⟨w4.heap.size,0,none⟩=some (.int .u64 s1)) ?_ ?_
 ·refine ⟨bv,?_,?_,?_,?_,?_,?_,?_,?_,?_,?_⟩
  all_goals (simp [go_sem, *];done)
 intro w' ⟨hb,z,fz,g0,g1,g2,g3,g4,g5,g6,g7⟩
 replace hb:=mU;obtain ⟨hcell,hfroz,hz,_⟩:=mB
 rw [rounds_succ]
 go_wp2
 refine wp_loop_rounds 5 ?_
 rw [rounds_succ]
 go_wp2
 go_quiet ((go_at_call 109;(with_reducible exact u6 (S5.m _))))
 obtain ⟨w1,rfl⟩:=nm w'
 (refine o7 (F:=Exit.then _ _ _ _) ?_;intro w' hb;replace hb:=mU;obtain ⟨hcell,hfroz,hz,_⟩:=mB)
 have f1:=S5.a1
 have f2:=S5.w1
 have f3:=S5.a2
 have f4:=S5.w2
 go_wp2
 clear f1 f2 f3 f4
 rw [rounds_succ]
 go_wp2
 go_quiet ((go_at_call 109;(with_reducible exact u6 (S6.m _))))
 obtain ⟨w1,rfl⟩:=nm w'
 (refine o7 (F:=Exit.then _ _ _ _) ?_;intro w' hb;replace hb:=mU;obtain ⟨hcell,hfroz,hz,_⟩:=mB)
 have f1:=S6.a1
 have f2:=S6.w1
 have f3:=S6.a2
 have f4:=S6.w2
 go_wp2
 clear f1 f2 f3 f4
 rw [rounds_succ]
 go_wp2
 go_quiet ((go_at_call 109;(with_reducible exact u6 (S7.m _))))
 obtain ⟨w1,rfl⟩:=nm w'
 (refine o7 (F:=Exit.then _ _ _ _) ?_;intro w' hb;replace hb:=mU;obtain ⟨hcell,hfroz,hz,_⟩:=mB)
 have f1:=S7.a1
 have f2:=S7.w1
 have f3:=S7.a2
 have f4:=S7.w2
 go_wp2
 clear f1 f2 f3 f4
 rw [rounds_succ]
 go_wp2
 go_quiet ((go_at_call 109;(with_reducible exact u6 (S8.m _))))
 obtain ⟨w1,rfl⟩:=nm w'
 (refine o7 (F:=Exit.then _ _ _ _) ?_;intro w' hb;replace hb:=mU;obtain ⟨hcell,hfroz,hz,_⟩:=mB)
 have f1:=S8.a1
 have f2:=S8.w1
 have f3:=S8.a2
 have f4:=S8.w2
 go_wp2
 clear f1 f2 f3 f4
 rw [rounds_succ]
 go_wp2
 refine J2 (F:=Code.rounds _ _ _ _ _) (fun wx=>Below w4.heap.size w4 wx/\w4.heap.size<wx.heap.size/\(∀o,wx.frozen? ⟨w4.heap.size,o,none⟩=false)/\wx.cell? ⟨w4.heap.size,7,none⟩=some (.int .u64 0)/\wx.cell? ⟨w4.heap.size,6,none⟩=some (.int .u64 0)/\wx.cell? ⟨w4.heap.size,5,none⟩=some (.int .u64 k8)/\wx.cell? ⟨w4.heap.size,4,none⟩=some (.int .u64 s8)/\wx.cell? ⟨w4.heap.size,3,none⟩=some (.int .u64 s7)/\wx.cell? ⟨w4.heap.size,2,none⟩=some (.int .u64 s6)/\wx.cell? ⟨w4.heap.size,1,none⟩=some (.int .u64 s5)/\wx.cell? ⟨w4.heap.size,0,none⟩=some (.int .u64 s1)) ?_ ?_
 ·refine ⟨bv,?_,?_,?_,?_,?_,?_,?_,?_,?_,?_⟩
  all_goals (simp [go_sem, *];done)
 intro w' ⟨hb,z,fz,g0,g1,g2,g3,g4,g5,g6,g7⟩
 replace hb:=mU;obtain ⟨hcell,hfroz,hz,_⟩:=mB
 rw [rounds_succ]
 go_wp2
 refine wp_loop_rounds 5 ?_
 rw [rounds_succ]
 go_wp2
 go_quiet ((go_at_call 109;(with_reducible exact u6 (S9.m _))))
 obtain ⟨w1,rfl⟩:=nm w'
 (refine o7 (F:=Exit.then _ _ _ _) ?_;intro w' hb;replace hb:=mU;obtain ⟨hcell,hfroz,hz,_⟩:=mB)
 have f1:=S9.a1
 have f2:=S9.w1
 have f3:=S9.a2
 have f4:=S9.w2
 go_wp2
 clear f1 f2 f3 f4
 rw [rounds_succ]
 go_wp2
 go_quiet ((go_at_call 109;(with_reducible exact u6 (S10.m _))))
 obtain ⟨w1,rfl⟩:=nm w'
 (refine o7 (F:=Exit.then _ _ _ _) ?_;intro w' hb;replace hb:=mU;obtain ⟨hcell,hfroz,hz,_⟩:=mB)
 have f1:=S10.a1
 have f2:=S10.w1
 have f3:=S10.a2
 have f4:=S10.w2
 go_wp2
 clear f1 f2 f3 f4
 rw [rounds_succ]
 go_wp2
 go_quiet ((go_at_call 109;(with_reducible exact u6 (S11.m _))))
 obtain ⟨w1,rfl⟩:=nm w'
 (refine o7 (F:=Exit.then _ _ _ _) ?_;intro w' hb;replace hb:=mU;obtain ⟨hcell,hfroz,hz,_⟩:=mB)
 have f1:=S11.a1
 have f2:=S11.w1
 have f3:=S11.a2
 have f4:=S11.w2
 go_wp2
 clear f1 f2 f3 f4
 rw [rounds_succ]
 go_wp2
 go_quiet ((go_at_call 109;(with_reducible exact u6 (S12.m _))))
 obtain ⟨w1,rfl⟩:=nm w'
 (refine o7 (F:=Exit.then _ _ _ _) ?_;intro w' hb;replace hb:=mU;obtain ⟨hcell,hfroz,hz,_⟩:=mB)
 have f1:=S12.a1
 have f2:=S12.w1
 have f3:=S12.a2
 have f4:=S12.w2
 go_wp2
 clear f1 f2 f3 f4
 rw [rounds_succ]
 go_wp2
 refine J2 (F:=Code.rounds _ _ _ _ _) (fun wx=>Below w4.heap.size w4 wx/\w4.heap.size<wx.heap.size/\(∀o,wx.frozen? ⟨w4.heap.size,o,none⟩=false)/\wx.cell? ⟨w4.heap.size,7,none⟩=some (.int .u64 0)/\wx.cell? ⟨w4.heap.size,6,none⟩=some (.int .u64 k12)/\wx.cell? ⟨w4.heap.size,5,none⟩=some (.int .u64 s12)/\wx.cell? ⟨w4.heap.size,4,none⟩=some (.int .u64 s11)/\wx.cell? ⟨w4.heap.size,3,none⟩=some (.int .u64 s10)/\wx.cell? ⟨w4.heap.size,2,none⟩=some (.int .u64 s9)/\wx.cell? ⟨w4.heap.size,1,none⟩=some (.int .u64 s5)/\wx.cell? ⟨w4.heap.size,0,none⟩=some (.int .u64 s1)) ?_ ?_
 ·refine ⟨bv,?_,?_,?_,?_,?_,?_,?_,?_,?_,?_⟩
  all_goals (simp [go_sem, *];done)
 intro w' ⟨hb,z,fz,g0,g1,g2,g3,g4,g5,g6,g7⟩
 replace hb:=mU;obtain ⟨hcell,hfroz,hz,_⟩:=mB
 rw [rounds_succ]
 go_wp2
 refine wp_loop_rounds 5 ?_
 rw [rounds_succ]
 go_wp2
 go_quiet ((go_at_call 109;(with_reducible exact u6 (S13.m _))))
 obtain ⟨w1,rfl⟩:=nm w'
 (refine o7 (F:=Exit.then _ _ _ _) ?_;intro w' hb;replace hb:=mU;obtain ⟨hcell,hfroz,hz,_⟩:=mB)
 have f1:=S13.a1
 have f2:=S13.w1
 have f3:=S13.a2
 have f4:=S13.w2
 go_wp2
 clear f1 f2 f3 f4
 rw [rounds_succ]
 go_wp2
 go_quiet ((go_at_call 109;(with_reducible exact u6 (S14.m _))))
 obtain ⟨w1,rfl⟩:=nm w'
 (refine o7 (F:=Exit.then _ _ _ _) ?_;intro w' hb;replace hb:=mU;obtain ⟨hcell,hfroz,hz,_⟩:=mB)
 have f1:=S14.a1
 have f2:=S14.w1
 have f3:=S14.a2
 have f4:=S14.w2
 go_wp2
 clear f1 f2 f3 f4
 rw [rounds_succ]
 go_wp2
 go_quiet ((go_at_call 109;(with_reducible exact u6 (S15.m _))))
 obtain ⟨w1,rfl⟩:=nm w'
 (refine o7 (F:=Exit.then _ _ _ _) ?_;intro w' hb;replace hb:=mU;obtain ⟨hcell,hfroz,hz,_⟩:=mB)
 have f1:=S15.a1
 have f2:=S15.w1
 have f3:=S15.a2
 have f4:=S15.w2
 go_wp2
 clear f1 f2 f3 f4
 rw [rounds_succ]
 go_wp2
 go_quiet ((go_at_call 109;(with_reducible exact u6 (S16.m _))))
 obtain ⟨w1,rfl⟩:=nm w'
 (refine o7 (F:=Exit.then _ _ _ _) ?_;intro w' hb;replace hb:=mU;obtain ⟨hcell,hfroz,hz,_⟩:=mB)
 have f1:=S16.a1
 have f2:=S16.w1
 have f3:=S16.a2
 have f4:=S16.w2
 go_wp2
 clear f1 f2 f3 f4
 rw [rounds_succ]
 go_wp2
 refine J2 (F:=Code.rounds _ _ _ _ _) (fun wx=>Below w4.heap.size w4 wx/\w4.heap.size<wx.heap.size/\(∀o,wx.frozen? ⟨w4.heap.size,o,none⟩=false)/\wx.cell? ⟨w4.heap.size,7,none⟩=some (.int .u64 k16)/\wx.cell? ⟨w4.heap.size,6,none⟩=some (.int .u64 s16)/\wx.cell? ⟨w4.heap.size,5,none⟩=some (.int .u64 s15)/\wx.cell? ⟨w4.heap.size,4,none⟩=some (.int .u64 s14)/\wx.cell? ⟨w4.heap.size,3,none⟩=some (.int .u64 s13)/\wx.cell? ⟨w4.heap.size,2,none⟩=some (.int .u64 s9)/\wx.cell? ⟨w4.heap.size,1,none⟩=some (.int .u64 s5)/\wx.cell? ⟨w4.heap.size,0,none⟩=some (.int .u64 s1)) ?_ ?_
 ·refine ⟨bv,?_,?_,?_,?_,?_,?_,?_,?_,?_,?_⟩
  all_goals (simp [go_sem, *];done)
 intro w' ⟨hb,z,fz,g0,g1,g2,g3,g4,g5,g6,g7⟩
 replace hb:=mU;obtain ⟨hcell,hfroz,hz,_⟩:=mB
 rw [rounds_succ]
 go_wp2
 exact bodyPost_ret (v:= .agg #[.int .u64 s13,.int .u64 s14,.int .u64 s15,.int .u64 s16]) (by first|(simp only [results,Tryz.results343];go_simp;done)|simp [results,Tryz.results343,go_sem, *]) rfl ⟨rfl,bv⟩
def H8 (A:Int):Value:= .agg #[.int .u64 (A%G9),.int .u64 (A/G9%G9),.int .u64 (A/(G9*G9)%G9),.int .u64 (A/(G9*G9*G9))]
theorem aC (a b c d:Int) (ha:v7 a) (hb:v7 b) (hc:v7 c) (hd:v7 d):H8 (nv a b c d)= .agg #[.int .u64 d,.int .u64 c,.int .u64 b,.int .u64 a]:=by
 have k:=L6 a b c d ha hb hc hd
 unfold H8
 rw [k.1,k.2.1,k.2.2.1,k.2.2.2.1]
theorem H6 (A:Int) (h0:0<=A) (h1:A<o6):∃a b c d,v7 a/\v7 b/\v7 c/\v7 d/\A=nv a b c d/\H8 A= .agg #[.int .u64 d,.int .u64 c,.int .u64 b,.int .u64 a]:=by
 obtain ⟨a,b,c,d,ha,hb,hc,hd,e,_⟩:=x9 A h0 h1
 exact ⟨a,b,c,d,ha,hb,hc,hd,e,by rw [e];exact aC a b c d ha hb hc hd⟩
theorem aJ (A B:Int) (w:World) (a0:0<=A) (a1:A<o6) (b0:0<=B) (b1:B<o6):
  Calls Tryz.prog 315 #[H8 A,H8 B] w fun e w'=>e= .returned (H8 ((A+B)%o6))/\Below w.heap.size w w':=by
 obtain ⟨a,b,c,d,ha,hb,hc,hd,eA,nA⟩:=H6 A a0 a1
 obtain ⟨p,q,r,s,hp,hq,hr,hs,eB,nB⟩:=H6 B b0 b1
 obtain ⟨d3,o3,f3,w3,l3,u3,e3⟩:=aM d s 0 hd hs (by omega)
 obtain ⟨d2,o2,f2,w2,l2,u2,e2⟩:=aM c r o3 hc hr ⟨l3,u3⟩
 obtain ⟨d1,o1,f1,w1,l1,u1,e1⟩:=aM b q o2 hb hq ⟨l2,u2⟩
 obtain ⟨d0,o0,f0,w0,l0,u0,e0⟩:=aM a p o1 ha hp ⟨l1,u1⟩
 have h:=ND a b c d p q r s d0 d1 d2 d3 o0 o1 o2 o3 w f3 f2 f1 f0
 rw [nA,nB,iE d0 d1 d2 d3 o0 (A+B) w0 w1 w2 w3 (by rw [eA,eB];unfold nv o6 G9;omega),aC d0 d1 d2 d3 w0 w1 w2 w3]
 exact h
theorem dZ (A B:Int) (w:World) (a0:0<=A) (a1:A<o6) (b0:0<=B) (b1:B<o6):
  Calls Tryz.prog 317 #[H8 A,H8 B] w fun e w'=>e= .returned (H8 ((A-B)%o6))/\Below w.heap.size w w':=by
 obtain ⟨a,b,c,d,ha,hb,hc,hd,eA,nA⟩:=H6 A a0 a1
 obtain ⟨p,q,r,s,hp,hq,hr,hs,eB,nB⟩:=H6 B b0 b1
 obtain ⟨d3,o3,f3,w3,l3,u3,e3⟩:=N7 d s 0 hd hs (by omega)
 obtain ⟨d2,o2,f2,w2,l2,u2,e2⟩:=N7 c r o3 hc hr ⟨l3,u3⟩
 obtain ⟨d1,o1,f1,w1,l1,u1,e1⟩:=N7 b q o2 hb hq ⟨l2,u2⟩
 obtain ⟨d0,o0,f0,w0,l0,u0,e0⟩:=N7 a p o1 ha hp ⟨l1,u1⟩
 have h:=NF a b c d p q r s d0 d1 d2 d3 o0 o1 o2 o3 w f3 f2 f1 f0
 rw [nA,nB,iE d0 d1 d2 d3 (-o0) (A-B) w0 w1 w2 w3 (by rw [eA,eB];unfold nv o6 G9;omega),aC d0 d1 d2 d3 w0 w1 w2 w3]
 exact h
theorem kI (A n:Int) (w:World) (a0:0<=A) (a1:A<o6) (hn:v7 n):
  Calls Tryz.prog 322 #[H8 A,.int .u64 n] w fun e w'=>e= .returned (H8 (A*n%o6))/\Below w.heap.size w w':=by
 obtain ⟨a,b,c,d,ha,hb,hc,hd,eA,nA⟩:=H6 A a0 a1
 obtain ⟨h3,l3,s3,c3,t3,M3,A3,W3,w3,v3,e3⟩:=aK d n 0 hd hn (by unfold v7;omega)
 obtain ⟨h2,l2,s2,c2,t2,M2,A2,W2,w2,v2,e2⟩:=aK c n t3 hc hn v3
 obtain ⟨h1,l1,s1,c1,t1,M1,A1,W1,w1,v1,e1⟩:=aK b n t2 hb hn v2
 obtain ⟨h0,l0,s0,c0,t0,M0,A0,W0,w0,v0,e0⟩:=aK a n t1 ha hn v1
 have h:=yK a b c d n h3 l3 s3 c3 t3 h2 l2 s2 c2 t2 h1 l1 s1 c1 t1 h0 l0 s0 c0 t0 w M3 A3 W3 M2 A2 W2 M1 A1 W1 M0 A0 W0
 rw [nA,iE s0 s1 s2 s3 t0 (A*n) w0 w1 w2 w3 (by
  have x:nv a b c d*n=((a*n*18446744073709551616+b*n)*18446744073709551616+c*n)*18446744073709551616+d*n:=by unfold nv;grind
  rw [eA,x];unfold nv o6 G9;omega),aC s0 s1 s2 s3 w0 w1 w2 w3]
 exact h
theorem aY (A d:Int) (w:World) (a0:0<=A) (a1:A<o6) (d0:0<d) (d1:d<=18446744073709551615):
  Calls Tryz.prog 320 #[H8 A,.int .u64 d] w fun e w'=>e= .returned (H8 (A/d))/\Below w.heap.size w w':=by
 obtain ⟨a,b,c,e,ha,hb,hc,hd,eA,nA⟩:=H6 A a0 a1
 obtain ⟨q0,r0,f0,w0,l0,u0,e0⟩:=O4 0 a d ⟨by omega,d0⟩ d1 ha
 obtain ⟨q1,r1,f1,w1,l1,u1,e1⟩:=O4 r0 b d ⟨l0,u0⟩ d1 hb
 obtain ⟨q2,r2,f2,w2,l2,u2,e2⟩:=O4 r1 c d ⟨l1,u1⟩ d1 hc
 obtain ⟨q3,r3,f3,w3,l3,u3,e3⟩:=O4 r2 e d ⟨l2,u2⟩ d1 hd
 have key:A/d=nv q0 q1 q2 q3:=by
  have:A=r3+nv q0 q1 q2 q3*d:=by
   rw [eA]
   have x0:nv q0 q1 q2 q3*d=((q0*d*18446744073709551616+q1*d)*18446744073709551616+q2*d)*18446744073709551616+q3*d:=by unfold nv;grind
   rw [x0]
   unfold nv
   omega
  rw [this,Int.add_mul_ediv_right _ _ (show d≠0 by omega),Int.ediv_eq_zero_of_lt l3 u3];omega
 rw [key,nA,aC q0 q1 q2 q3 w0 w1 w2 w3]
 exact EW a b c e d q0 q1 q2 q3 r0 r1 r2 r3 w f0 f1 f2 f3
theorem gR (A B:Int) (w:World) (a0:0<=A) (a1:A<o6) (b0:0<=B) (b1:B<o6):
  Calls Tryz.prog 343 #[H8 A,H8 B] w fun e w'=>e= .returned (H8 (A*B/x6%o6))/\Below w.heap.size w w':=by
 obtain ⟨a,b,c,d,ha,hb,hc,hd,eA,nA⟩:=H6 A a0 a1
 obtain ⟨p,q,r,s,hp,hq,hr,hs,eB,nB⟩:=H6 B b0 b1
 have z:v7 0:=by unfold v7;omega
 obtain ⟨s1,k1,_,_,_,_,_,_,S1,ws1,wk1,e1⟩:=A4 d s 0 0 hd hs z z
 obtain ⟨s2,k2,_,_,_,_,_,_,S2,ws2,wk2,e2⟩:=A4 d r 0 k1 hd hr z wk1
 obtain ⟨s3,k3,_,_,_,_,_,_,S3,ws3,wk3,e3⟩:=A4 d q 0 k2 hd hq z wk2
 obtain ⟨s4,k4,_,_,_,_,_,_,S4,ws4,wk4,e4⟩:=A4 d p 0 k3 hd hp z wk3
 obtain ⟨s5,k5,_,_,_,_,_,_,S5,ws5,wk5,e5⟩:=A4 c s s2 0 hc hs ws2 z
 obtain ⟨s6,k6,_,_,_,_,_,_,S6,ws6,wk6,e6⟩:=A4 c r s3 k5 hc hr ws3 wk5
 obtain ⟨s7,k7,_,_,_,_,_,_,S7,ws7,wk7,e7⟩:=A4 c q s4 k6 hc hq ws4 wk6
 obtain ⟨s8,k8,_,_,_,_,_,_,S8,ws8,wk8,e8⟩:=A4 c p k4 k7 hc hp wk4 wk7
 obtain ⟨s9,k9,_,_,_,_,_,_,S9,ws9,wk9,e9⟩:=A4 b s s6 0 hb hs ws6 z
 obtain ⟨s10,k10,_,_,_,_,_,_,S10,ws10,wk10,e10⟩:=A4 b r s7 k9 hb hr ws7 wk9
 obtain ⟨s11,k11,_,_,_,_,_,_,S11,ws11,wk11,e11⟩:=A4 b q s8 k10 hb hq ws8 wk10
 obtain ⟨s12,k12,_,_,_,_,_,_,S12,ws12,wk12,e12⟩:=A4 b p k8 k11 hb hp wk8 wk11
 obtain ⟨s13,k13,_,_,_,_,_,_,S13,ws13,wk13,e13⟩:=A4 a s s10 0 ha hs ws10 z
 obtain ⟨s14,k14,_,_,_,_,_,_,S14,ws14,wk14,e14⟩:=A4 a r s11 k13 ha hr ws11 wk13
 obtain ⟨s15,k15,_,_,_,_,_,_,S15,ws15,wk15,e15⟩:=A4 a q s12 k14 ha hq ws12 wk14
 obtain ⟨s16,k16,_,_,_,_,_,_,S16,ws16,wk16,e16⟩:=A4 a p k12 k15 ha hp wk12 wk15
 have h:=KW _ _ _ _ _ _ _ _ _ _ _ _ _ _ _ _ _ _ _ _ _ _ _ _ _ _ _ _ _ _ _ _ _ _ _ _ _ _ _ _ _ _ _ _ _ _ _ _ _ _ _ _ _ _ _ _ _ _ _ _ _ _ _ _ _ _ _ _ _ _ _ _ _ _ _ _ _ _ _ _ _ _ _ _ _ _ _ _ _ _ _ _ _ _ _ _ _ _ _ _ _ _ _ _ _ _ _ _ _ _ _ _ _ _ _ _ _ _ _ _ _ _ _ _ _ _ _ _ _ _ _ _ _ _ _ _ w S1 S2 S3 S4 S5 S6 S7 S8 S9 S10 S11 S12 S13 S14 S15 S16
 have key:A*B=(k16*o6+nv s16 s15 s14 s13)*x6+((s9*18446744073709551616+s5)*18446744073709551616+s1):=by
  have x:A*B=((((((a*p*18446744073709551616+(a*q+b*p))*18446744073709551616+(a*r+b*q+c*p))*18446744073709551616+(a*s+b*r+c*q+d*p))*18446744073709551616+(b*s+c*r+d*q))*18446744073709551616+(c*s+d*r))*18446744073709551616+d*s):=by
   rw [eA,eB];unfold nv;grind
  rw [x]
  clear x h S1 S2 S3 S4 S5 S6 S7 S8 S9 S10 S11 S12 S13 S14 S15 S16 eA eB nA nB a0 a1 b0 b1 ha hb hc hd hp hq hr hs ws1 ws2 ws3 ws4 ws5 ws6 ws7 ws8 ws9 ws10 ws11 ws12 ws13 ws14 ws15 ws16 wk1 wk2 wk3 wk4 wk5 wk6 wk7 wk8 wk9 wk10 wk11 wk12 wk13 wk14 wk15 wk16
  unfold nv o6 x6 G9
  grind
 have l:0<=(s9*18446744073709551616+s5)*18446744073709551616+s1/\(s9*18446744073709551616+s5)*18446744073709551616+s1<x6:=by
  unfold v7 at ws1 ws5 ws9
  unfold x6 G9
  omega
 have dv:A*B/x6=k16*o6+nv s16 s15 s14 s13:=by
  rw [key,Int.add_comm,Int.add_mul_ediv_right _ _ (by have:=N8;omega),Int.ediv_eq_zero_of_lt l.1 l.2];omega
 rw [dv,nA,nB,iE s16 s15 s14 s13 k16 _ ws16 ws15 ws14 ws13 (Int.add_comm _ _),aC s16 s15 s14 s13 ws16 ws15 ws14 ws13]
 exact h
set_option maxHeartbeats 1000000 in
theorem GC (a b c d p q r s:Int) (v:Bool) (w:World)
  (hv:v=if a=p then (if b=q then (if c=r then (if d=s then false else decide (d<s)) else decide (c<r)) else decide (b<q)) else decide (a<p)):
  Calls Tryz.prog 319 #[.agg #[.int .u64 d,.int .u64 c,.int .u64 b,.int .u64 a],.agg #[.int .u64 s,.int .u64 r,.int .u64 q,.int .u64 p]] w fun e w'=>e= .returned (.bool v)/\Below w.heap.size w w':=by
 have HV:=b6 hv
 clear hv
 go_enter Tryz.func319,Tryz.ntmps319
 go_wp2
 refine wp_loop_rounds 5 ?_
 by_cases h0:a=p
 ·subst h0
  rw [rounds_succ]
  go_wp2
  go_region
  go_wp2
  by_cases h1:b=q
  ·subst h1
   rw [rounds_succ]
   go_wp2
   go_region
   go_wp2
   by_cases h2:c=r
   ·subst h2
    rw [rounds_succ]
    go_wp2
    go_region
    go_wp2
    by_cases h3:d=s
    ·subst h3
     rw [rounds_succ]
     go_wp2
     go_region
     go_wp2
     rw [rounds_succ]
     go_wp2
     have e:=HV.out
     simp at e
     subst e
     exact bodyPost_ret (v:= .bool false) (by first|(simp only [results,Tryz.results319];go_simp;done)|simp [results,Tryz.results319,go_sem, *]) rfl ⟨rfl,bv⟩
    ·have e:=HV.out
     simp only [if_true,if_neg h3] at e
     rw [rounds_succ]
     go_wp2
     go_region
     go_wp2
     subst e
     go_region
     go_wp2
     exact bodyPost_ret (v:= .bool (decide (d<s))) (by first|(simp only [results,Tryz.results319];go_simp;done)|simp [results,Tryz.results319,go_sem, *]) rfl ⟨rfl,bv⟩
   ·have e:=HV.out
    simp only [if_true,if_neg h2] at e
    rw [rounds_succ]
    go_wp2
    go_region
    go_wp2
    subst e
    go_region
    go_wp2
    exact bodyPost_ret (v:= .bool (decide (c<r))) (by first|(simp only [results,Tryz.results319];go_simp;done)|simp [results,Tryz.results319,go_sem, *]) rfl ⟨rfl,bv⟩
  ·have e:=HV.out
   simp only [if_true,if_neg h1] at e
   rw [rounds_succ]
   go_wp2
   go_region
   go_wp2
   subst e
   go_region
   go_wp2
   exact bodyPost_ret (v:= .bool (decide (b<q))) (by first|(simp only [results,Tryz.results319];go_simp;done)|simp [results,Tryz.results319,go_sem, *]) rfl ⟨rfl,bv⟩
 ·have e:=HV.out
  simp only [if_neg h0] at e
  rw [rounds_succ]
  go_wp2
  go_region
  go_wp2
  subst e
  go_region
  go_wp2
  exact bodyPost_ret (v:= .bool (decide (a<p))) (by first|(simp only [results,Tryz.results319];go_simp;done)|simp [results,Tryz.results319,go_sem, *]) rfl ⟨rfl,bv⟩
theorem mW (A B:Int) (w:World) (a0:0<=A) (a1:A<o6) (b0:0<=B) (b1:B<o6):
  Calls Tryz.prog 319 #[H8 A,H8 B] w fun e w'=>e= .returned (.bool (decide (A<B)))/\Below w.heap.size w w':=by
 obtain ⟨a,b,c,d,ha,hb,hc,hd,eA,nA⟩:=H6 A a0 a1
 obtain ⟨p,q,r,s,hp,hq,hr,hs,eB,nB⟩:=H6 B b0 b1
 rw [nA,nB]
 refine GC a b c d p q r s _ w ?_
 rw [eA,eB]
 unfold v7 at*
 unfold nv
 by_cases h0:a=p
 ·subst h0
  by_cases h1:b=q
  ·subst h1
   by_cases h2:c=r
   ·subst h2
    by_cases h3:d=s
    ·subst h3;simp
    ·simp only [if_true,if_neg h3,decide_eq_decide];omega
   ·simp only [if_true,if_neg h2,decide_eq_decide];omega
  ·simp only [if_true,if_neg h1,decide_eq_decide];omega
 ·simp only [if_neg h0,decide_eq_decide];omega
theorem XW:H8 eW= .agg #[.int .u64 11820040416388919760,.int .u64 1376283091369227076,.int .u64 2611923443488327891,.int .u64 3]:=
 aC 3 2611923443488327891 1376283091369227076 11820040416388919760 (by unfold v7;omega) (by unfold v7;omega) (by unfold v7;omega) (by unfold v7;omega)
theorem QH:H8 x6= .agg #[.int .u64 0,.int .u64 0,.int .u64 0,.int .u64 1]:=
 aC 1 0 0 0 (by unfold v7;omega) (by unfold v7;omega) (by unfold v7;omega) (by unfold v7;omega)
theorem mE:H8 0= .agg #[.int .u64 0,.int .u64 0,.int .u64 0,.int .u64 0]:=
 aC 0 0 0 0 (by unfold v7;omega) (by unfold v7;omega) (by unfold v7;omega) (by unfold v7;omega)
theorem UJ (w:World):Calls Tryz.prog 324 #[] w fun e w'=>e= .returned (H8 eW)/\Below w.heap.size w w':=by
 rw [XW]
 go_enter Tryz.func324,Tryz.ntmps324
 go_wp2
 exact bodyPost_ret (v:= .agg #[.int .u64 11820040416388919760,.int .u64 1376283091369227076,.int .u64 2611923443488327891,.int .u64 3]) (by first|(simp only [results,Tryz.results324];go_simp;done)|simp [results,Tryz.results324,go_sem, *]) rfl ⟨rfl,bv⟩
theorem PP (w:World):Calls Tryz.prog 314 #[] w fun e w'=>e= .returned (H8 x6)/\Below w.heap.size w w':=by
 rw [QH]
 go_enter Tryz.func314,Tryz.ntmps314
 go_wp2
 exact bodyPost_ret (v:= .agg #[.int .u64 0,.int .u64 0,.int .u64 0,.int .u64 1]) (by first|(simp only [results,Tryz.results314];go_simp;done)|simp [results,Tryz.results314,go_sem, *]) rfl ⟨rfl,bv⟩
theorem kA (A:Int) (w:World) (a0:0<=A) (a1:A<o6):
  Calls Tryz.prog 323 #[H8 A] w fun e w'=>e= .returned (H8 ((A+A)%o6))/\Below w.heap.size w w':=by
 have V:=b6 fun w=>aJ A A w a0 a1 a0 a1
 obtain ⟨a,b,c,d,_,_,_,_,_,nA⟩:=H6 A a0 a1
 obtain ⟨p,q,r,s,hX⟩:∃p q r s,H8 ((A+A)%o6)= .agg #[.int .u64 p,.int .u64 q,.int .u64 r,.int .u64 s]:=⟨_,_,_,_,rfl⟩
 rw [hX] at V ⊢
 rw [nA] at V ⊢
 go_enter Tryz.func323,Tryz.ntmps323
 go_wp2_with (go_at_call 315;((with_reducible refine am (V.out _) ?_);intro w' hb);replace hb:=mU;obtain ⟨hcell,hfroz,hz,_⟩:=mB)
 exact bodyPost_ret (v:= .agg #[.int .u64 p,.int .u64 q,.int .u64 r,.int .u64 s]) (by first|(simp only [results,Tryz.results323];go_simp;done)|simp [results,Tryz.results323,go_sem, *]) rfl ⟨rfl,bv⟩
theorem mI (A:Int) (w:World) (a0:0<=A) (a1:A<o6):
  Calls Tryz.prog 318 #[H8 A] w fun e w'=>e= .returned (H8 (A/2))/\Below w.heap.size w w':=by
 have V:=b6 fun w=>aY A 2 w a0 a1 (by omega) (by omega)
 obtain ⟨a,b,c,d,_,_,_,_,_,nA⟩:=H6 A a0 a1
 obtain ⟨p,q,r,s,hX⟩:∃p q r s,H8 (A/2)= .agg #[.int .u64 p,.int .u64 q,.int .u64 r,.int .u64 s]:=⟨_,_,_,_,rfl⟩
 rw [hX] at V ⊢
 rw [nA] at V ⊢
 go_enter Tryz.func318,Tryz.ntmps318
 go_wp2_with (go_at_call 320;((with_reducible refine am (V.out _) ?_);intro w' hb);replace hb:=mU;obtain ⟨hcell,hfroz,hz,_⟩:=mB)
 exact bodyPost_ret (v:= .agg #[.int .u64 p,.int .u64 q,.int .u64 r,.int .u64 s]) (by first|(simp only [results,Tryz.results318];go_simp;done)|simp [results,Tryz.results318,go_sem, *]) rfl ⟨rfl,bv⟩
theorem a0Y (x:Int) (h0:0<=x) (h1:x<=18446744073709551615):bits BinOp.and IntKind.u64 x 1=x%2:=by
 obtain ⟨n,rfl⟩:∃n:Nat,x=n:=⟨x.toNat,by omega⟩
 have:=u64_and_nat n 1 (by omega) (by omega)
 rw [show ((1:Nat):Int)=1 from rfl] at this
 rw [this,show (1:Nat)=2^1-1 from rfl,Nat.and_two_pow_sub_one_eq_mod]
 omega
theorem RN (x:Int) (h0:0<=x) (h1:x<=18446744073709551615) (h:x%2=0):bits BinOp.or IntKind.u64 x 1=x+1:=by
 obtain ⟨n,rfl⟩:∃n:Nat,x=((n*2:Nat):Int):=⟨(x/2).toNat,by omega⟩
 have:=Div.oY 2 n 1 1 rfl (by omega) (by omega)
 rw [show ((1:Nat):Int)=1 from rfl] at this
 rw [this]
 omega
theorem ZZ (x X:Int) (m:Nat) (hX:x*x6=X) (h:m<192):X/2^m%2=0:=by
 have e:(x6:Int)=2^(191-m)*2*2^m:=by
  rw [Int.mul_assoc,Int.mul_comm 2,<-Int.pow_succ,<-Int.pow_add,show 191-m+(m+1)=192 by omega]
  decide
 rw [<-hX,e,<-Int.mul_assoc,Int.mul_ediv_cancel _ (Int.ne_of_gt (Int.pow_pos (by decide))),<-Int.mul_assoc]
 omega
theorem TY (x X:Int) (m:Nat) (hX:x*x6=X) (h:192<=m):X/2^m=x/2^(m-192):=by
 have e:(2:Int)^m=2^(m-192)*x6:=by
  have:x6=2^192:=by decide
  rw [this,<-Int.pow_add,show m-192+192=m by omega]
 rw [<-hX,e,Int.mul_ediv_mul_of_pos_left _ _ N8]
theorem lX (hi a lo:Int) (L s:Nat) (hs:s<64) (l0:0<=lo) (l1:lo<2^(64*L)) (_a0:0<=a):(hi*2^64+a)*2^(64*L)+lo=(hi*2^64+a)*2^(64*L)+lo/\((hi*2^64+a)*2^(64*L)+lo)/2^(64*L+s)%2=a/2^s%2:=by
 refine ⟨rfl,?_⟩
 have p:(0:Int)<2^(64*L):=Int.pow_pos (by decide)
 have q:(0:Int)<2^s:=Int.pow_pos (by decide)
 rw [Int.pow_add,<-Int.ediv_ediv_of_nonneg (Int.le_of_lt p),Int.add_comm _ lo,Int.add_mul_ediv_right _ _ (Int.ne_of_gt p),Int.ediv_eq_zero_of_lt l0 l1,Int.zero_add]
 have e:(2:Int)^64=2^(63-s)*2*2^s:=by rw [Int.mul_assoc,Int.mul_comm 2,<-Int.pow_succ,<-Int.pow_add,show 63-s+(s+1)=64 by omega]
 rw [e,<-Int.mul_assoc,Int.add_comm,Int.add_mul_ediv_right _ _ (Int.ne_of_gt q),<-Int.mul_assoc]
 omega
def wM (a0 a1 a2 a3:Int) (k:Nat):Int:=if k=0 then a0 else if k=1 then a1 else if k=2 then a2 else a3
theorem ZK (a0 a1 a2 a3:Int) (j:Nat) (hj:j<256) (h0:v7 a0) (h1:v7 a1) (h2:v7 a2) (h3:v7 a3):v7 (wM a0 a1 a2 a3 (j/64))/\nv a3 a2 a1 a0/2^j%2=wM a0 a1 a2 a3 (j/64)/2^(j%64)%2:=by
 have hs:j%64<64:=Nat.mod_lt _ (by omega)
 have e:j=64*(j/64)+j%64:=by omega
 have c:j/64=0\/j/64=1\/j/64=2\/j/64=3:=by omega
 generalize j%64=s at*
 unfold v7 at*
 rcases c with c|c|c|c<;>rw [c] at e ⊢<;>subst e
 ·refine ⟨h0,?_⟩
  have l:=(lX ((a3*18446744073709551616+a2)*18446744073709551616+a1) a0 0 0 s hs (by omega) (by decide) h0.1).2
  rw [show (64*0+s:Nat)=s by omega] at l ⊢
  show nv a3 a2 a1 a0/2^s%2=a0/2^s%2
  rw [<-l]
  congr 2
  unfold nv;omega
 ·refine ⟨h1,?_⟩
  have l:=(lX (a3*18446744073709551616+a2) a1 a0 1 s hs h0.1 (by omega) h1.1).2
  show nv a3 a2 a1 a0/2^(64*1+s)%2=a1/2^s%2
  rw [<-l]
  congr 2
 ·refine ⟨h2,?_⟩
  have l:=(lX a3 a2 (a1*18446744073709551616+a0) 2 s hs (by omega) (by omega) h2.1).2
  show nv a3 a2 a1 a0/2^(64*2+s)%2=a2/2^s%2
  rw [<-l]
  congr 2
  unfold nv;omega
 ·refine ⟨h3,?_⟩
  have l:=(lX 0 a3 ((a2*18446744073709551616+a1)*18446744073709551616+a0) 3 s hs (by omega) (by omega) h3.1).2
  show nv a3 a2 a1 a0/2^(64*3+s)%2=a3/2^s%2
  rw [<-l]
  congr 2
  unfold nv;omega
theorem WK (x X a0 a1 a2 a3:Int) (m:Nat) (hm:m<448) (hX:x*x6=X) (hx:x=nv a3 a2 a1 a0) (h0:v7 a0) (h1:v7 a1) (h2:v7 a2) (h3:v7 a3):
  ((m:Int)<192/\X/2^m%2=0)\/(¬(m:Int)<192/\(bits BinOp.and IntKind.u64 (wM a0 a1 a2 a3 ((m-192)/64)/2^((m-192)%64)) 1==1)=decide (X/2^m%2=1)):=by
 by_cases h:m<192
 ·exact .inl ⟨by omega,ZZ x X m hX h⟩
 ·refine .inr ⟨by omega,?_⟩
  have l:=ZK a0 a1 a2 a3 (m-192) (by omega) h0 h1 h2 h3
  rw [TY x X m hX (by omega),hx,l.2]
  have w:=l.1
  generalize wM a0 a1 a2 a3 ((m-192)/64)=a at*
  unfold v7 at w
  have q0:0<=a/2^((m-192)%64):=Int.ediv_nonneg w.1 (Int.le_of_lt (Int.pow_pos (by decide)))
  have q1:a/2^((m-192)%64)<=a:=Int.ediv_le_self _ w.1
  rw [a0Y _ q0 (by omega)]
  generalize a/2^((m-192)%64)=b at*
  rcases (show b%2=0\/b%2=1 by omega) with g|g<;>rw [g]<;>decide
def fY (A a b c d:Int):Prop:=H8 A= .agg #[.int .u64 a,.int .u64 b,.int .u64 c,.int .u64 d]/\v7 a/\v7 b/\v7 c/\v7 d/\A=nv d c b a
theorem H0 (A:Int) (h0:0<=A) (h1:A<o6):∃a b c d,fY A a b c d:=by
 obtain ⟨a,b,c,d,ha,hb,hc,hd,e,n⟩:=H6 A h0 h1
 exact ⟨d,c,b,a,n,hd,hc,hb,ha,e⟩
theorem TF {A a b c d:Int} (ha:v7 a) (hb:v7 b) (hc:v7 c) (hd:v7 d) (h:A=nv d c b a):fY A a b c d:=⟨by rw [h];exact aC d c b a hd hc hb ha,ha,hb,hc,hd,h⟩
theorem rwo {A a b c d:Int} (h:fY A a b c d):H8 A= .agg #[.int .u64 a,.int .u64 b,.int .u64 c,.int .u64 d]:=h.1
end Go.Proofs.YtdhbeoahpfimbaaGreat
