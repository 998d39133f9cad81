/- Part of the proof of TopDistances. -/
import Derived.Test.YtdhbeoahpfimbaaGreatMu
namespace Go.Proofs.YtdhbeoahpfimbaaGreat
open Go.RowKit
set_option maxRecDepth 100000 in
set_option maxHeartbeats 4000000 in
theorem KQ (a0 a1 a2 a3 b0 b1 b2 b3 d0 d1 d2 d3 o0 o1 o2 o3:Int) (w:World)
  (h3:∀w,(callFunc 309 #[.int .u64 a3,.int .u64 b3,.int .u64 0]).run Tryz.prog w= .ok (.value (.tuple #[.int .u64 d3,.int .u64 o3])) w)
  (h2:∀w,(callFunc 309 #[.int .u64 a2,.int .u64 b2,.int .u64 o3]).run Tryz.prog w= .ok (.value (.tuple #[.int .u64 d2,.int .u64 o2])) w)
  (h1:∀w,(callFunc 309 #[.int .u64 a1,.int .u64 b1,.int .u64 o2]).run Tryz.prog w= .ok (.value (.tuple #[.int .u64 d1,.int .u64 o1])) w)
  (h0:∀w,(callFunc 309 #[.int .u64 a0,.int .u64 b0,.int .u64 o1]).run Tryz.prog w= .ok (.value (.tuple #[.int .u64 d0,.int .u64 o0])) w)
  :Calls Tryz.prog 342 #[.agg #[.int .u64 a0,.int .u64 a1,.int .u64 a2,.int .u64 a3],.agg #[.int .u64 b0,.int .u64 b1,.int .u64 b2,.int .u64 b3]] w fun e w'=>e= .returned (.agg #[.int .u64 d0,.int .u64 d1,.int .u64 d2,.int .u64 d3])/\Below w.heap.size w w':=by
 go_enter Tryz.func342,Tryz.ntmps342
 go_wp2
 refine wp_loop_rounds 5 ?_
 rw [rounds_succ]
 go_wp2
 go_region
 go_wp2
 rw [rounds_succ]
 go_wp2
 go_region
 go_wp2
 rw [rounds_succ]
 go_wp2
 go_region
 go_wp2
 rw [rounds_succ]
 go_wp2
 go_region
 go_wp2
 rw [rounds_succ]
 go_wp2
 exact bodyPost_ret (v:= .agg #[.int .u64 d0,.int .u64 d1,.int .u64 d2,.int .u64 d3]) (by first|(simp only [results,Tryz.results342];go_simp;done)|simp [results,Tryz.results342,go_sem, *]) rfl ⟨rfl,bv⟩
set_option maxRecDepth 100000 in
set_option maxHeartbeats 4000000 in
theorem NC (a0 a1 a2 a3 b0 b1 b2 b3 d0 d1 d2 d3 o0 o1 o2 o3:Int) (w:World)
  (h3:∀w,(callFunc 344 #[.int .u64 a3,.int .u64 b3,.int .u64 0]).run Tryz.prog w= .ok (.value (.tuple #[.int .u64 d3,.int .u64 o3])) w)
  (h2:∀w,(callFunc 344 #[.int .u64 a2,.int .u64 b2,.int .u64 o3]).run Tryz.prog w= .ok (.value (.tuple #[.int .u64 d2,.int .u64 o2])) w)
  (h1:∀w,(callFunc 344 #[.int .u64 a1,.int .u64 b1,.int .u64 o2]).run Tryz.prog w= .ok (.value (.tuple #[.int .u64 d1,.int .u64 o1])) w)
  (h0:∀w,(callFunc 344 #[.int .u64 a0,.int .u64 b0,.int .u64 o1]).run Tryz.prog w= .ok (.value (.tuple #[.int .u64 d0,.int .u64 o0])) w)
  :Calls Tryz.prog 341 #[.agg #[.int .u64 a0,.int .u64 a1,.int .u64 a2,.int .u64 a3],.agg #[.int .u64 b0,.int .u64 b1,.int .u64 b2,.int .u64 b3]] w fun e w'=>e= .returned (.agg #[.int .u64 d0,.int .u64 d1,.int .u64 d2,.int .u64 d3])/\Below w.heap.size w w':=by
 go_enter Tryz.func341,Tryz.ntmps341
 go_wp2
 refine wp_loop_rounds 5 ?_
 rw [rounds_succ]
 go_wp2
 go_region
 go_wp2
 rw [rounds_succ]
 go_wp2
 go_region
 go_wp2
 rw [rounds_succ]
 go_wp2
 go_region
 go_wp2
 rw [rounds_succ]
 go_wp2
 go_region
 go_wp2
 rw [rounds_succ]
 go_wp2
 exact bodyPost_ret (v:= .agg #[.int .u64 d0,.int .u64 d1,.int .u64 d2,.int .u64 d3]) (by first|(simp only [results,Tryz.results341];go_simp;done)|simp [results,Tryz.results341,go_sem, *]) rfl ⟨rfl,bv⟩
set_option maxRecDepth 100000 in
set_option maxHeartbeats 4000000 in
theorem BH (a0 a1 a2 a3 n h3 l3 s3 c3 t3 h2 l2 s2 c2 t2 h1 l1 s1 c1 t1 h0 l0 s0 c0 t0:Int) (w:World)
  (M3:Hid (∀w,Calls Tryz.prog 109 #[.int .u64 a3,.int .u64 n] w fun e w'=>e= .returned (.tuple #[.int .u64 h3,.int .u64 l3])/\w=w'))
  (A3:∀w,(callFunc 309 #[.int .u64 l3,.int .u64 0,.int .u64 0]).run Tryz.prog w= .ok (.value (.tuple #[.int .u64 s3,.int .u64 c3])) w) (W3:IntKind.u64.wrap (h3+c3)=t3)
  (M2:Hid (∀w,Calls Tryz.prog 109 #[.int .u64 a2,.int .u64 n] w fun e w'=>e= .returned (.tuple #[.int .u64 h2,.int .u64 l2])/\w=w'))
  (A2:∀w,(callFunc 309 #[.int .u64 l2,.int .u64 t3,.int .u64 0]).run Tryz.prog w= .ok (.value (.tuple #[.int .u64 s2,.int .u64 c2])) w) (W2:IntKind.u64.wrap (h2+c2)=t2)
  (M1:Hid (∀w,Calls Tryz.prog 109 #[.int .u64 a1,.int .u64 n] w fun e w'=>e= .returned (.tuple #[.int .u64 h1,.int .u64 l1])/\w=w'))
  (A1:∀w,(callFunc 309 #[.int .u64 l1,.int .u64 t2,.int .u64 0]).run Tryz.prog w= .ok (.value (.tuple #[.int .u64 s1,.int .u64 c1])) w) (W1:IntKind.u64.wrap (h1+c1)=t1)
  (M0:Hid (∀w,Calls Tryz.prog 109 #[.int .u64 a0,.int .u64 n] w fun e w'=>e= .returned (.tuple #[.int .u64 h0,.int .u64 l0])/\w=w'))
  (A0:∀w,(callFunc 309 #[.int .u64 l0,.int .u64 t1,.int .u64 0]).run Tryz.prog w= .ok (.value (.tuple #[.int .u64 s0,.int .u64 c0])) w) (W0:IntKind.u64.wrap (h0+c0)=t0)
  :Calls Tryz.prog 269 #[.agg #[.int .u64 a0,.int .u64 a1,.int .u64 a2,.int .u64 a3],.int .u64 n] w fun e w'=>e= .returned (.agg #[.int .u64 s0,.int .u64 s1,.int .u64 s2,.int .u64 s3])/\Below w.heap.size w w':=by
 go_enter Tryz.func269,Tryz.ntmps269
 go_wp2
 refine wp_loop_rounds 5 ?_
 rw [rounds_succ]
 go_wp2_with (go_at_call 109;((with_reducible refine am (M3.out _) ?_);rintro w' rfl))
 rw [rounds_succ]
 go_wp2_with (go_at_call 109;((with_reducible refine am (M2.out _) ?_);rintro w' rfl))
 rw [rounds_succ]
 go_wp2_with (go_at_call 109;((with_reducible refine am (M1.out _) ?_);rintro w' rfl))
 rw [rounds_succ]
 go_wp2_with (go_at_call 109;((with_reducible refine am (M0.out _) ?_);rintro w' rfl))
 rw [rounds_succ]
 go_wp2
 exact bodyPost_ret (v:= .agg #[.int .u64 s0,.int .u64 s1,.int .u64 s2,.int .u64 s3]) (by first|(simp only [results,Tryz.results269];go_simp;done)|simp [results,Tryz.results269,go_sem, *]) rfl ⟨rfl,bv⟩
set_option maxRecDepth 100000 in
set_option maxHeartbeats 4000000 in
theorem GH (a0 a1 a2 a3 d q0 q1 q2 q3 r0 r1 r2 r3:Int) (w:World)
  (h0:CB 110 #[.int .u64 0,.int .u64 a0,.int .u64 d] (.tuple #[.int .u64 q0,.int .u64 r0]))
  (h1:CB 110 #[.int .u64 r0,.int .u64 a1,.int .u64 d] (.tuple #[.int .u64 q1,.int .u64 r1]))
  (h2:CB 110 #[.int .u64 r1,.int .u64 a2,.int .u64 d] (.tuple #[.int .u64 q2,.int .u64 r2]))
  (h3:CB 110 #[.int .u64 r2,.int .u64 a3,.int .u64 d] (.tuple #[.int .u64 q3,.int .u64 r3]))
  :Calls Tryz.prog 306 #[.agg #[.int .u64 a0,.int .u64 a1,.int .u64 a2,.int .u64 a3],.int .u64 d] w fun e w'=>e= .returned (.agg #[.int .u64 q0,.int .u64 q1,.int .u64 q2,.int .u64 q3])/\Below w.heap.size w w':=by
 go_enter Tryz.func306,Tryz.ntmps306
 go_wp2
 refine wp_loop_rounds 5 ?_
 rw [rounds_succ]
 go_wp2_with (go_at_call 110;((with_reducible refine am (h0.out _) ?_);intro w' hb);replace hb:=mU;obtain ⟨hcell,hfroz,hz,_⟩:=mB)
 rw [rounds_succ]
 go_wp2_with (go_at_call 110;((with_reducible refine am (h1.out _) ?_);intro w' hb);replace hb:=mU;obtain ⟨hcell,hfroz,hz,_⟩:=mB)
 rw [rounds_succ]
 go_wp2_with (go_at_call 110;((with_reducible refine am (h2.out _) ?_);intro w' hb);replace hb:=mU;obtain ⟨hcell,hfroz,hz,_⟩:=mB)
 rw [rounds_succ]
 go_wp2_with (go_at_call 110;((with_reducible refine am (h3.out _) ?_);intro w' hb);replace hb:=mU;obtain ⟨hcell,hfroz,hz,_⟩:=mB)
 rw [rounds_succ]
 go_wp2
 exact bodyPost_ret (v:= .agg #[.int .u64 q0,.int .u64 q1,.int .u64 q2,.int .u64 q3]) (by first|(simp only [results,Tryz.results306];go_simp;done)|simp [results,Tryz.results306,go_sem, *]) rfl ⟨rfl,bv⟩
structure I8 (x y o k s k2 hi lo s1 c1 h1 c2:Int):Prop where
 m:∀w,Calls Tryz.prog 109 #[.int .u64 x,.int .u64 y] w fun e w'=>e= .returned (.tuple #[.int .u64 hi,.int .u64 lo])/\w=w'
 a1:∀w,(callFunc 309 #[.int .u64 lo,.int .u64 o,.int .u64 0]).run Tryz.prog w= .ok (.value (.tuple #[.int .u64 s1,.int .u64 c1])) w
 w1:IntKind.u64.wrap (hi+c1)=h1
 a2:∀w,(callFunc 309 #[.int .u64 s1,.int .u64 k,.int .u64 0]).run Tryz.prog w= .ok (.value (.tuple #[.int .u64 s,.int .u64 c2])) w
 w2:IntKind.u64.wrap (h1+c2)=k2
theorem EI (A:Addr) (w:World):(Instr.arrayAt 271 (.slice (some A) 4 7)).run Tryz.prog w= .ok (.pointer (some A)) w:=by kernel_rfl
set_option maxRecDepth 100000 in
set_option maxHeartbeats 8000000 in
theorem OC (a0 a1 a2 a3 b0 b1 b2 b3 s1 k1 hi1 lo1 p1 c1 h1 e1 s2 k2 hi2 lo2 p2 c2 h2 e2 s3 k3 hi3 lo3 p3 c3 h3 e3 s4 k4 hi4 lo4 p4 c4 h4 e4 s5 k5 hi5 lo5 p5 c5 h5 e5 s6 k6 hi6 lo6 p6 c6 h6 e6 s7 k7 hi7 lo7 p7 c7 h7 e7 s8 k8 hi8 lo8 p8 c8 h8 e8 s9 k9 hi9 lo9 p9 c9 h9 e9 s10 k10 hi10 lo10 p10 c10 h10 e10 s11 k11 hi11 lo11 p11 c11 h11 e11 s12 k12 hi12 lo12 p12 c12 h12 e12 s13 k13 hi13 lo13 p13 c13 h13 e13 s14 k14 hi14 lo14 p14 c14 h14 e14 s15 k15 hi15 lo15 p15 c15 h15 e15 s16 k16 hi16 lo16 p16 c16 h16 e16:Int) (w:World)
  (S1:I8 a3 b3 0 0 s1 k1 hi1 lo1 p1 c1 h1 e1)
  (S2:I8 a3 b2 0 k1 s2 k2 hi2 lo2 p2 c2 h2 e2)
  (S3:I8 a3 b1 0 k2 s3 k3 hi3 lo3 p3 c3 h3 e3)
  (S4:I8 a3 b0 0 k3 s4 k4 hi4 lo4 p4 c4 h4 e4)
  (S5:I8 a2 b3 s2 0 s5 k5 hi5 lo5 p5 c5 h5 e5)
  (S6:I8 a2 b2 s3 k5 s6 k6 hi6 lo6 p6 c6 h6 e6)
  (S7:I8 a2 b1 s4 k6 s7 k7 hi7 lo7 p7 c7 h7 e7)
  (S8:I8 a2 b0 k4 k7 s8 k8 hi8 lo8 p8 c8 h8 e8)
  (S9:I8 a1 b3 s6 0 s9 k9 hi9 lo9 p9 c9 h9 e9)
  (S10:I8 a1 b2 s7 k9 s10 k10 hi10 lo10 p10 c10 h10 e10)
  (S11:I8 a1 b1 s8 k10 s11 k11 hi11 lo11 p11 c11 h11 e11)
  (S12:I8 a1 b0 k8 k11 s12 k12 hi12 lo12 p12 c12 h12 e12)
  (S13:I8 a0 b3 s10 0 s13 k13 hi13 lo13 p13 c13 h13 e13)
  (S14:I8 a0 b2 s11 k13 s14 k14 hi14 lo14 p14 c14 h14 e14)
  (S15:I8 a0 b1 s12 k14 s15 k15 hi15 lo15 p15 c15 h15 e15)
  (S16:I8 a0 b0 k12 k15 s16 k16 hi16 lo16 p16 c16 h16 e16)
  (KU:Hid ((0<=k4/\k4<=18446744073709551615)/\(0<=k8/\k8<=18446744073709551615)/\(0<=k12/\k12<=18446744073709551615)/\(0<=k16/\k16<=18446744073709551615))):
  Calls Tryz.prog 307 #[.agg #[.int .u64 a0,.int .u64 a1,.int .u64 a2,.int .u64 a3],.agg #[.int .u64 b0,.int .u64 b1,.int .u64 b2,.int .u64 b3]] w fun e w'=>e= .returned (.agg #[.int .u64 s16,.int .u64 s15,.int .u64 s14,.int .u64 s13])/\Below w.heap.size w w':=by
 go_enter Tryz.func307,Tryz.ntmps307
 go_upto_region 1 with fail
 (refine m9 ?_;intro w' hb;replace hb:=mU;obtain ⟨hcell,hfroz,hz,_⟩:=mB)
 obtain ⟨w4,rfl⟩:=nm w'
 go_wp2
 (refine m9 ?_;intro w' hb;replace hb:=mU;obtain ⟨hcell,hfroz,hz,_⟩:=mB)
 (try have y4:w4.heap.size<w'.heap.size:=by omega)
 refine wp_loop_rounds 5 ?_
 rw [rounds_succ]
 go_wp2
 refine wp_loop_rounds 5 ?_
 rw [rounds_succ]
 go_wp2
 go_quiet ((go_at_call 109;(with_reducible exact u6 (S1.m _))))
 obtain ⟨w1,rfl⟩:=nm w'
 (refine o7 (F:=Exit.then _ _ _ _) ?_;intro w' hb;replace hb:=mU;obtain ⟨hcell,hfroz,hz,_⟩:=mB)
 have f1:=S1.a1
 have f2:=S1.w1
 have f3:=S1.a2
 have f4:=S1.w2
 go_wp2
 clear f1 f2 f3 f4
 rw [rounds_succ]
 go_wp2
 go_quiet ((go_at_call 109;(with_reducible exact u6 (S2.m _))))
 obtain ⟨w1,rfl⟩:=nm w'
 (refine o7 (F:=Exit.then _ _ _ _) ?_;intro w' hb;replace hb:=mU;obtain ⟨hcell,hfroz,hz,_⟩:=mB)
 have f1:=S2.a1
 have f2:=S2.w1
 have f3:=S2.a2
 have f4:=S2.w2
 go_wp2
 clear f1 f2 f3 f4
 rw [rounds_succ]
 go_wp2
 go_quiet ((go_at_call 109;(with_reducible exact u6 (S3.m _))))
 obtain ⟨w1,rfl⟩:=nm w'
 (refine o7 (F:=Exit.then _ _ _ _) ?_;intro w' hb;replace hb:=mU;obtain ⟨hcell,hfroz,hz,_⟩:=mB)
 have f1:=S3.a1
 have f2:=S3.w1
 have f3:=S3.a2
 have f4:=S3.w2
 go_wp2
 clear f1 f2 f3 f4
 rw [rounds_succ]
 go_wp2
 go_quiet ((go_at_call 109;(with_reducible exact u6 (S4.m _))))
 obtain ⟨w1,rfl⟩:=nm w'
 (refine o7 (F:=Exit.then _ _ _ _) ?_;intro w' hb;replace hb:=mU;obtain ⟨hcell,hfroz,hz,_⟩:=mB)
 have f1:=S4.a1
 have f2:=S4.w1
 have f3:=S4.a2
 have f4:=S4.w2
 go_wp2
 clear f1 f2 f3 f4
 have ku:=KU.out.1
 have fk:IntKind.u64.wrap (0+k4)=k4:=by rw [IntKind.wrap_u64];omega
 rw [rounds_succ]
 go_wp2
 refine J2 (F:=Code.rounds _ _ _ _ _) (fun wx=>Below w4.heap.size w4 wx/\w4.heap.size<wx.heap.size/\(∀o,wx.frozen? ⟨w4.heap.size,o,none⟩=false)/\wx.cell? ⟨w4.heap.size,0,none⟩=some (.int .u64 0)/\wx.cell? ⟨w4.heap.size,1,none⟩=some (.int .u64 0)/\wx.cell? ⟨w4.heap.size,2,none⟩=some (.int .u64 0)/\wx.cell? ⟨w4.heap.size,3,none⟩=some (.int .u64 k4)/\wx.cell? ⟨w4.heap.size,4,none⟩=some (.int .u64 s4)/\wx.cell? ⟨w4.heap.size,5,none⟩=some (.int .u64 s3)/\wx.cell? ⟨w4.heap.size,6,none⟩=some (.int .u64 s2)/\wx.cell? ⟨w4.heap.size,7,none⟩=some (.int .u64 s1)) ?_ ?_
 ·refine ⟨bv,?_,?_,?_,?_,?_,?_,?_,?_,?_,?_⟩
  all_goals (simp [go_sem, *];done)
 clear ku fk
 intro w' ⟨hb,z,fz,g0,g1,g2,g3,g4,g5,g6,g7⟩
 replace hb:=mU;obtain ⟨hcell,hfroz,hz,_⟩:=mB
 rw [rounds_succ]
 go_wp2
 refine wp_loop_rounds 5 ?_
 rw [rounds_succ]
 go_wp2
 go_quiet ((go_at_call 109;(with_reducible exact u6 (S5.m _))))
 obtain ⟨w1,rfl⟩:=nm w'
 (refine o7 (F:=Exit.then _ _ _ _) ?_;intro w' hb;replace hb:=mU;obtain ⟨hcell,hfroz,hz,_⟩:=mB)
 have f1:=S5.a1
 have f2:=S5.w1
 have f3:=S5.a2
 have f4:=S5.w2
 go_wp2
 clear f1 f2 f3 f4
 rw [rounds_succ]
 go_wp2
 go_quiet ((go_at_call 109;(with_reducible exact u6 (S6.m _))))
 obtain ⟨w1,rfl⟩:=nm w'
 (refine o7 (F:=Exit.then _ _ _ _) ?_;intro w' hb;replace hb:=mU;obtain ⟨hcell,hfroz,hz,_⟩:=mB)
 have f1:=S6.a1
 have f2:=S6.w1
 have f3:=S6.a2
 have f4:=S6.w2
 go_wp2
 clear f1 f2 f3 f4
 rw [rounds_succ]
 go_wp2
 go_quiet ((go_at_call 109;(with_reducible exact u6 (S7.m _))))
 obtain ⟨w1,rfl⟩:=nm w'
 (refine o7 (F:=Exit.then _ _ _ _) ?_;intro w' hb;replace hb:=mU;obtain ⟨hcell,hfroz,hz,_⟩:=mB)
 have f1:=S7.a1
 have f2:=S7.w1
 have f3:=S7.a2
 have f4:=S7.w2
 go_wp2
 clear f1 f2 f3 f4
 rw [rounds_succ]
 go_wp2
 go_quiet ((go_at_call 109;(with_reducible exact u6 (S8.m _))))
 obtain ⟨w1,rfl⟩:=nm w'
 (refine o7 (F:=Exit.then _ _ _ _) ?_;intro w' hb;replace hb:=mU;obtain ⟨hcell,hfroz,hz,_⟩:=mB)
 have f1:=S8.a1
 have f2:=S8.w1
 have f3:=S8.a2
 have f4:=S8.w2
 go_wp2
 clear f1 f2 f3 f4
 have ku:=KU.out.2.1
 have fk:IntKind.u64.wrap (0+k8)=k8:=by rw [IntKind.wrap_u64];omega
 rw [rounds_succ]
 go_wp2
 refine J2 (F:=Code.rounds _ _ _ _ _) (fun wx=>Below w4.heap.size w4 wx/\w4.heap.size<wx.heap.size/\(∀o,wx.frozen? ⟨w4.heap.size,o,none⟩=false)/\wx.cell? ⟨w4.heap.size,0,none⟩=some (.int .u64 0)/\wx.cell? ⟨w4.heap.size,1,none⟩=some (.int .u64 0)/\wx.cell? ⟨w4.heap.size,2,none⟩=some (.int .u64 k8)/\wx.cell? ⟨w4.heap.size,3,none⟩=some (.int .u64 s8)/\wx.cell? ⟨w4.heap.size,4,none⟩=some (.int .u64 s7)/\wx.cell? ⟨w4.heap.size,5,none⟩=some (.int .u64 s6)/\wx.cell? ⟨w4.heap.size,6,none⟩=some (.int .u64 s5)/\wx.cell? ⟨w4.heap.size,7,none⟩=some (.int .u64 s1)) ?_ ?_
 ·refine ⟨bv,?_,?_,?_,?_,?_,?_,?_,?_,?_,?_⟩
  all_goals (simp [go_sem, *];done)
 clear ku fk
 intro w' ⟨hb,z,fz,g0,g1,g2,g3,g4,g5,g6,g7⟩
 replace hb:=mU;obtain ⟨hcell,hfroz,hz,_⟩:=mB
 rw [rounds_succ]
 go_wp2
 refine wp_loop_rounds 5 ?_
 rw [rounds_succ]
 go_wp2
 go_quiet ((go_at_call 109;(with_reducible exact u6 (S9.m _))))
 obtain ⟨w1,rfl⟩:=nm w'
 (refine o7 (F:=Exit.then _ _ _ _) ?_;intro w' hb;replace hb:=mU;obtain ⟨hcell,hfroz,hz,_⟩:=mB)
 have f1:=S9.a1
 have f2:=S9.w1
 have f3:=S9.a2
 have f4:=S9.w2
 go_wp2
 clear f1 f2 f3 f4
 rw [rounds_succ]
 go_wp2
 go_quiet ((go_at_call 109;(with_reducible exact u6 (S10.m _))))
 obtain ⟨w1,rfl⟩:=nm w'
 (refine o7 (F:=Exit.then _ _ _ _) ?_;intro w' hb;replace hb:=mU;obtain ⟨hcell,hfroz,hz,_⟩:=mB)
 have f1:=S10.a1
 have f2:=S10.w1
 have f3:=S10.a2
 have f4:=S10.w2
 go_wp2
 clear f1 f2 f3 f4
 rw [rounds_succ]
 go_wp2
 go_quiet ((go_at_call 109;(with_reducible exact u6 (S11.m _))))
 obtain ⟨w1,rfl⟩:=nm w'
 (refine o7 (F:=Exit.then _ _ _ _) ?_;intro w' hb;replace hb:=mU;obtain ⟨hcell,hfroz,hz,_⟩:=mB)
 have f1:=S11.a1
 have f2:=S11.w1
 have f3:=S11.a2
 have f4:=S11.w2
 go_wp2
 clear f1 f2 f3 f4
 rw [rounds_succ]
 go_wp2
 go_quiet ((go_at_call 109;(with_reducible exact u6 (S12.m _))))
 obtain ⟨w1,rfl⟩:=nm w'
 (refine o7 (F:=Exit.then _ _ _ _) ?_;intro w' hb;replace hb:=mU;obtain ⟨hcell,hfroz,hz,_⟩:=mB)
 have f1:=S12.a1
 have f2:=S12.w1
 have f3:=S12.a2
 have f4:=S12.w2
 go_wp2
 clear f1 f2 f3 f4
 have ku:=KU.out.2.2.1
 have fk:IntKind.u64.wrap (0+k12)=k12:=by rw [IntKind.wrap_u64];omega
 rw [rounds_succ]
 go_wp2
 refine J2 (F:=Code.rounds _ _ _ _ _) (fun wx=>Below w4.heap.size w4 wx/\w4.heap.size<wx.heap.size/\(∀o,wx.frozen? ⟨w4.heap.size,o,none⟩=false)/\wx.cell? ⟨w4.heap.size,0,none⟩=some (.int .u64 0)/\wx.cell? ⟨w4.heap.size,1,none⟩=some (.int .u64 k12)/\wx.cell? ⟨w4.heap.size,2,none⟩=some (.int .u64 s12)/\wx.cell? ⟨w4.heap.size,3,none⟩=some (.int .u64 s11)/\wx.cell? ⟨w4.heap.size,4,none⟩=some (.int .u64 s10)/\wx.cell? ⟨w4.heap.size,5,none⟩=some (.int .u64 s9)/\wx.cell? ⟨w4.heap.size,6,none⟩=some (.int .u64 s5)/\wx.cell? ⟨w4.heap.size,7,none⟩=some (.int .u64 s1)) ?_ ?_
 ·refine ⟨bv,?_,?_,?_,?_,?_,?_,?_,?_,?_,?_⟩
  all_goals (simp [go_sem, *];done)
 clear ku fk
 intro w' ⟨hb,z,fz,g0,g1,g2,g3,g4,g5,g6,g7⟩
 replace hb:=mU;obtain ⟨hcell,hfroz,hz,_⟩:=mB
 rw [rounds_succ]
 go_wp2
 refine wp_loop_rounds 5 ?_
 rw [rounds_succ]
 go_wp2
 go_quiet ((go_at_call 109;(with_reducible exact u6 (S13.m _))))
 obtain ⟨w1,rfl⟩:=nm w'
 (refine o7 (F:=Exit.then _ _ _ _) ?_;intro w' hb;replace hb:=mU;obtain ⟨hcell,hfroz,hz,_⟩:=mB)
 have f1:=S13.a1
 have f2:=S13.w1
 have f3:=S13.a2
 have f4:=S13.w2
 go_wp2
 clear f1 f2 f3 f4
 rw [rounds_succ]
 go_wp2
 go_quiet ((go_at_call 109;(with_reducible exact u6 (S14.m _))))
 obtain ⟨w1,rfl⟩:=nm w'
 (refine o7 (F:=Exit.then _ _ _ _) ?_;intro w' hb;replace hb:=mU;obtain ⟨hcell,hfroz,hz,_⟩:=mB)
 have f1:=S14.a1
 have f2:=S14.w1
 have f3:=S14.a2
 have f4:=S14.w2
 go_wp2
 clear f1 f2 f3 f4
 rw [rounds_succ]
 go_wp2
 go_quiet ((go_at_call 109;(with_reducible exact u6 (S15.m _))))
 obtain ⟨w1,rfl⟩:=nm w'
 (refine o7 (F:=Exit.then _ _ _ _) ?_;intro w' hb;replace hb:=mU;obtain ⟨hcell,hfroz,hz,_⟩:=mB)
 have f1:=S15.a1
 have f2:=S15.w1
 have f3:=S15.a2
 have f4:=S15.w2
 go_wp2
 clear f1 f2 f3 f4
 rw [rounds_succ]
 go_wp2
 go_quiet ((go_at_call 109;(with_reducible exact u6 (S16.m _))))
 obtain ⟨w1,rfl⟩:=nm w'
 (refine o7 (F:=Exit.then _ _ _ _) ?_;intro w' hb;replace hb:=mU;obtain ⟨hcell,hfroz,hz,_⟩:=mB)
 have f1:=S16.a1
 have f2:=S16.w1
 have f3:=S16.a2
 have f4:=S16.w2
 go_wp2
 clear f1 f2 f3 f4
 have ku:=KU.out.2.2.2
 have fk:IntKind.u64.wrap (0+k16)=k16:=by rw [IntKind.wrap_u64];omega
 rw [rounds_succ]
 go_wp2
 refine J2 (F:=Code.rounds _ _ _ _ _) (fun wx=>Below w4.heap.size w4 wx/\w4.heap.size<wx.heap.size/\(∀o,wx.frozen? ⟨w4.heap.size,o,none⟩=false)/\wx.cell? ⟨w4.heap.size,0,none⟩=some (.int .u64 k16)/\wx.cell? ⟨w4.heap.size,1,none⟩=some (.int .u64 s16)/\wx.cell? ⟨w4.heap.size,2,none⟩=some (.int .u64 s15)/\wx.cell? ⟨w4.heap.size,3,none⟩=some (.int .u64 s14)/\wx.cell? ⟨w4.heap.size,4,none⟩=some (.int .u64 s13)/\wx.cell? ⟨w4.heap.size,5,none⟩=some (.int .u64 s9)/\wx.cell? ⟨w4.heap.size,6,none⟩=some (.int .u64 s5)/\wx.cell? ⟨w4.heap.size,7,none⟩=some (.int .u64 s1)) ?_ ?_
 ·refine ⟨bv,?_,?_,?_,?_,?_,?_,?_,?_,?_,?_⟩
  all_goals (simp [go_sem, *];done)
 clear ku fk
 intro w' ⟨hb,z,fz,g0,g1,g2,g3,g4,g5,g6,g7⟩
 replace hb:=mU;obtain ⟨hcell,hfroz,hz,_⟩:=mB
 have arr:=fun w=>EI ⟨w4.heap.size,1,none⟩ w
 rw [rounds_succ]
 go_wp2
 exact bodyPost_ret (v:= .agg #[.int .u64 s16,.int .u64 s15,.int .u64 s14,.int .u64 s13]) (by first|(simp only [results,Tryz.results307];go_simp;done)|simp [results,Tryz.results307,go_sem, *]) rfl ⟨rfl,bv⟩
def x6:Int:=G9*G9*G9
def dG (sq term n:Int):Int:=(term*sq/x6)%o6/((n+1)*(n+2))
def dV:Nat->Int->Int->Int->Int->Bool->Int
 |0,_,sum,_,_,_=>sum
 |k+1,sq,sum,term,n,minus=>if term=0 then sum else dV k sq (if minus then (sum-dG sq term n)%o6 else (sum+dG sq term n)%o6) (dG sq term n) (n+2) (!minus)
theorem N8:(0:Int)<x6:=by unfold x6 G9;omega
theorem fD:x6<o6:=by unfold x6 o6 G9;omega
def X8 (f sum term:Int) (minus:Bool):Prop:=0<=term/\term<=f/\0<=sum/\sum<=f/\if minus then term<=sum else sum+term<=f
theorem uE {sq term n:Int} (s0:0<=sq) (s1:sq<=x6) (t0:0<=term) (t1:term<=x6) (n0:0<=n):0<=dG sq term n/\2*dG sq term n<=term:=by
 have hW:=N8
 have a:0<=term*sq:=Int.mul_nonneg t0 s0
 have b:term*sq/x6<=term:=by
  apply Int.ediv_le_of_le_mul hW
  exact Int.mul_le_mul_of_nonneg_left s1 t0
 have c:0<=term*sq/x6:=Int.ediv_nonneg a (Int.le_of_lt hW)
 have e:(term*sq/x6)%o6=term*sq/x6:=Int.emod_eq_of_lt c (by have:=fD;omega)
 have d:2<=(n+1)*(n+2):=by
  have:=Int.mul_le_mul (show 1<=n+1 by omega) (show 2<=n+2 by omega) (by omega) (by omega)
  omega
 have f:0<=term*sq/x6/((n+1)*(n+2)):=Int.ediv_nonneg c (by omega)
 have g:2*(term*sq/x6/((n+1)*(n+2)))<=term*sq/x6:=by
  have h1:(n+1)*(n+2)*(term*sq/x6/((n+1)*(n+2)))<=term*sq/x6:=Int.mul_ediv_self_le (by omega)
  have h2:=Int.mul_le_mul_of_nonneg_right d f
  omega
 unfold dG
 rw [e]
 omega
theorem pZ {f sq sum term n:Int} {minus:Bool} (f1:f<=x6) (s0:0<=sq) (s1:sq<=x6) (n0:0<=n) (h:X8 f sum term minus):
  X8 f (if minus then (sum-dG sq term n)%o6 else (sum+dG sq term n)%o6) (dG sq term n) (!minus):=by
 have hW:=fD
 unfold X8 at*
 have b:=uE s0 s1 h.1 (by omega) n0
 cases minus
 ·simp only [Bool.false_eq_true,if_false,Bool.not_false,if_true] at*
  rw [Int.emod_eq_of_lt (by omega) (by omega)]
  omega
 ·simp only [if_true,Bool.not_true,Bool.false_eq_true,if_false] at*
  rw [Int.emod_eq_of_lt (by omega) (by omega)]
  omega
theorem UY {f sq:Int} (f1:f<=x6) (s0:0<=sq) (s1:sq<=x6):∀(k:Nat) (sum term n:Int) (minus:Bool),0<=n->X8 f sum term minus->0<=dV k sq sum term n minus/\dV k sq sum term n minus<=f:=by
 intro k
 induction k with
 |zero=>intro sum term n minus _ h;unfold dV;unfold X8 at h;omega
 |succ k ih=>
  intro sum term n minus n0 h
  unfold dV
  split
  ·unfold X8 at h;omega
  ·exact ih _ _ _ _ (by omega) (pZ f1 s0 s1 n0 h)
def eW:Int:=((3*G9+2611923443488327891)*G9+1376283091369227076)*G9+11820040416388919760
def T5 (k:Int):Int:=eW*k/10800000
def kT (k:Int):Int:=T5 k*T5 k/x6
def fQ (k:Int):Int:=dV 200 (kT k) (T5 k) (T5 k) 1 true
def iK (k:Int):Int:=dV 200 (kT k) x6 x6 0 true
def aH (k:Int):Int:=if 2700000<k then iK (5400000-k) else fQ k
def aO (k:Int):Int:=if 2700000<k then fQ (5400000-k) else iK k
theorem lH {k:Int} (h0:0<=k) (h1:k<=2700000):0<=T5 k/\T5 k<=x6:=by
 unfold T5 eW x6 G9
 omega
theorem lS {k:Int} (h0:0<=k) (h1:k<=2700000):0<=kT k/\kT k<=x6:=by
 have a:=lH h0 h1
 have hW:=N8
 unfold kT
 refine ⟨Int.ediv_nonneg (Int.mul_nonneg a.1 a.1) (Int.le_of_lt hW),Int.ediv_le_of_le_mul hW ?_⟩
 exact Int.mul_le_mul a.2 a.2 a.1 (Int.le_of_lt hW)
theorem lW {k:Int} (h0:0<=k) (h1:k<=2700000):0<=fQ k/\fQ k<=x6:=by
 have a:=lH h0 h1
 have s:=lS h0 h1
 have:=UY a.2 s.1 s.2 200 (T5 k) (T5 k) 1 true (by decide) (by unfold X8;simp;omega)
 unfold fQ
 omega
theorem kK {k:Int} (h0:0<=k) (h1:k<=2700000):0<=iK k/\iK k<=x6:=by
 have hW:=N8
 have s:=lS h0 h1
 exact UY (Int.le_refl _) s.1 s.2 200 x6 x6 0 true (by decide) (by unfold X8;simp;omega)
theorem yA {k:Int} (h0:0<=k) (h1:k<=5400000):0<=aH k/\aH k<=x6:=by
 unfold aH
 split
 ·exact kK (by omega) (by omega)
 ·exact lW h0 (by omega)
theorem AL {k:Int} (h0:0<=k) (h1:k<=5400000):0<=aO k/\aO k<=x6:=by
 unfold aO
 split
 ·exact lW (by omega) (by omega)
 ·exact kK h0 (by omega)
def cK (k:Nat):Nat:=if k=0 then 1 else if k=2700000 then 1 else (aO k).toNat
def sK (k:Nat):Nat:=if k=0 then 0 else if k=2700000 then 1 else (aH k).toNat
theorem aM (x y c:Int) (hx:v7 x) (hy:v7 y) (hc:0<=c/\c<=1):∃d o,(∀w,(callFunc 309 #[.int .u64 x,.int .u64 y,.int .u64 c]).run Tryz.prog w= .ok (.value (.tuple #[.int .u64 d,.int .u64 o])) w)/\v7 d/\0<=o/\o<=1/\o*18446744073709551616+d=x+y+c:=by
 refine ⟨_,_,fun w=>W6 x y c hx.1 hy.1 hc.1 hc.2 w,?_⟩
 unfold v7 at*
 omega
theorem iE (a b c d o X:Int) (ha:v7 a) (hb:v7 b) (hc:v7 c) (hd:v7 d) (h:X=nv a b c d+o*o6):X%o6=nv a b c d:=by
 have k:=L6 a b c d ha hb hc hd
 have k5:=k.2.2.2.2.1
 have k6:=k.2.2.2.2.2
 rw [h,Int.add_mul_emod_self_right]
 exact Int.emod_eq_of_lt k5 k6
theorem PM (A B:Int) (w:World) (a0:0<=A) (a1:A<o6) (b0:0<=B) (b1:B<o6):
  Calls Tryz.prog 342 #[cJ A,cJ B] w fun e w'=>e= .returned (cJ ((A+B)%o6))/\Below w.heap.size w w':=by
 obtain ⟨a,b,c,d,ha,hb,hc,hd,eA,nA⟩:=x9 A a0 a1
 obtain ⟨p,q,r,s,hp,hq,hr,hs,eB,nB⟩:=x9 B b0 b1
 obtain ⟨d3,o3,f3,w3,l3,u3,e3⟩:=aM d s 0 hd hs (by omega)
 obtain ⟨d2,o2,f2,w2,l2,u2,e2⟩:=aM c r o3 hc hr ⟨l3,u3⟩
 obtain ⟨d1,o1,f1,w1,l1,u1,e1⟩:=aM b q o2 hb hq ⟨l2,u2⟩
 obtain ⟨d0,o0,f0,w0,l0,u0,e0⟩:=aM a p o1 ha hp ⟨l1,u1⟩
 have h:=KQ a b c d p q r s d0 d1 d2 d3 o0 o1 o2 o3 w f3 f2 f1 f0
 rw [nA,nB,iE d0 d1 d2 d3 o0 (A+B) w0 w1 w2 w3 (by rw [eA,eB];unfold nv o6 G9;omega),Z8 d0 d1 d2 d3 w0 w1 w2 w3]
 exact h
theorem VQ (A B:Int) (w:World) (a0:0<=A) (a1:A<o6) (b0:0<=B) (b1:B<o6):
  Calls Tryz.prog 341 #[cJ A,cJ B] w fun e w'=>e= .returned (cJ ((A-B)%o6))/\Below w.heap.size w w':=by
 obtain ⟨a,b,c,d,ha,hb,hc,hd,eA,nA⟩:=x9 A a0 a1
 obtain ⟨p,q,r,s,hp,hq,hr,hs,eB,nB⟩:=x9 B b0 b1
 obtain ⟨d3,o3,f3,w3,l3,u3,e3⟩:=N7 d s 0 hd hs (by omega)
 obtain ⟨d2,o2,f2,w2,l2,u2,e2⟩:=N7 c r o3 hc hr ⟨l3,u3⟩
 obtain ⟨d1,o1,f1,w1,l1,u1,e1⟩:=N7 b q o2 hb hq ⟨l2,u2⟩
 obtain ⟨d0,o0,f0,w0,l0,u0,e0⟩:=N7 a p o1 ha hp ⟨l1,u1⟩
 have h:=NC a b c d p q r s d0 d1 d2 d3 o0 o1 o2 o3 w f3 f2 f1 f0
 rw [nA,nB,iE d0 d1 d2 d3 (-o0) (A-B) w0 w1 w2 w3 (by rw [eA,eB];unfold nv o6 G9;omega),Z8 d0 d1 d2 d3 w0 w1 w2 w3]
 exact h
theorem aK (x n t:Int) (hx:v7 x) (hn:v7 n) (ht:v7 t):∃h l s c t2,
  Hid (∀w,Calls Tryz.prog 109 #[.int .u64 x,.int .u64 n] w fun e w'=>e= .returned (.tuple #[.int .u64 h,.int .u64 l])/\w=w')/\
  (∀w,(callFunc 309 #[.int .u64 l,.int .u64 t,.int .u64 0]).run Tryz.prog w= .ok (.value (.tuple #[.int .u64 s,.int .u64 c])) w)/\IntKind.u64.wrap (h+c)=t2/\v7 s/\v7 t2/\t2*18446744073709551616+s=x*n+t:=by
 have p0:0<=x*n:=Int.mul_nonneg hx.1 hn.1
 have p1:x*n<=18446744073709551615*18446744073709551615:=Int.mul_le_mul hx.2 hn.2 hn.1 (by omega)
 have M:=fun w=>eL x n w hx.1 hx.2 hn.1 hn.2
 generalize x*n=P at*
 unfold v7 at*
 refine ⟨P/18446744073709551616,P%18446744073709551616,(P%18446744073709551616+t+0)%18446744073709551616,(P%18446744073709551616+t+0)/18446744073709551616,P/18446744073709551616+(P%18446744073709551616+t+0)/18446744073709551616,b6 M,?_,?_,by omega,by omega,by omega⟩
 ·exact fun w=>W6 _ t 0 (by omega) (by omega) (by omega) (by omega) w
 ·rw [IntKind.wrap_u64];omega
theorem jP (A n:Int) (w:World) (a0:0<=A) (a1:A<o6) (hn:v7 n):
  Calls Tryz.prog 269 #[cJ A,.int .u64 n] w fun e w'=>e= .returned (cJ (A*n%o6))/\Below w.heap.size w w':=by
 obtain ⟨a,b,c,d,ha,hb,hc,hd,eA,nA⟩:=x9 A a0 a1
 obtain ⟨h3,l3,s3,c3,t3,M3,A3,W3,w3,v3,e3⟩:=aK d n 0 hd hn (by unfold v7;omega)
 obtain ⟨h2,l2,s2,c2,t2,M2,A2,W2,w2,v2,e2⟩:=aK c n t3 hc hn v3
 obtain ⟨h1,l1,s1,c1,t1,M1,A1,W1,w1,v1,e1⟩:=aK b n t2 hb hn v2
 obtain ⟨h0,l0,s0,c0,t0,M0,A0,W0,w0,v0,e0⟩:=aK a n t1 ha hn v1
 have h:=BH a b c d n h3 l3 s3 c3 t3 h2 l2 s2 c2 t2 h1 l1 s1 c1 t1 h0 l0 s0 c0 t0 w M3 A3 W3 M2 A2 W2 M1 A1 W1 M0 A0 W0
 rw [nA,iE s0 s1 s2 s3 t0 (A*n) w0 w1 w2 w3 (by
  have x:nv a b c d*n=((a*n*18446744073709551616+b*n)*18446744073709551616+c*n)*18446744073709551616+d*n:=by unfold nv;grind
  rw [eA,x];unfold nv o6 G9;omega),Z8 s0 s1 s2 s3 w0 w1 w2 w3]
 exact h
theorem sX (A d:Int) (w:World) (a0:0<=A) (a1:A<o6) (d0:0<d) (d1:d<=18446744073709551615):
  Calls Tryz.prog 306 #[cJ A,.int .u64 d] w fun e w'=>e= .returned (cJ (A/d))/\Below w.heap.size w w':=by
 obtain ⟨a,b,c,e,ha,hb,hc,hd,eA,nA⟩:=x9 A a0 a1
 obtain ⟨q0,r0,f0,w0,l0,u0,e0⟩:=O4 0 a d ⟨by omega,d0⟩ d1 ha
 obtain ⟨q1,r1,f1,w1,l1,u1,e1⟩:=O4 r0 b d ⟨l0,u0⟩ d1 hb
 obtain ⟨q2,r2,f2,w2,l2,u2,e2⟩:=O4 r1 c d ⟨l1,u1⟩ d1 hc
 obtain ⟨q3,r3,f3,w3,l3,u3,e3⟩:=O4 r2 e d ⟨l2,u2⟩ d1 hd
 have key:A/d=nv q0 q1 q2 q3:=by
  have:A=r3+nv q0 q1 q2 q3*d:=by
   rw [eA]
   have x0:nv q0 q1 q2 q3*d=((q0*d*18446744073709551616+q1*d)*18446744073709551616+q2*d)*18446744073709551616+q3*d:=by unfold nv;grind
   rw [x0]
   unfold nv
   omega
  rw [this,Int.add_mul_ediv_right _ _ (show d≠0 by omega),Int.ediv_eq_zero_of_lt l3 u3];omega
 rw [key,nA,Z8 q0 q1 q2 q3 w0 w1 w2 w3]
 exact GH a b c e d q0 q1 q2 q3 r0 r1 r2 r3 w f0 f1 f2 f3
theorem A4 (x y o k:Int) (hx:v7 x) (hy:v7 y) (ho:v7 o) (hk:v7 k):∃s k2 hi lo s1 c1 h1 c2,I8 x y o k s k2 hi lo s1 c1 h1 c2/\v7 s/\v7 k2/\k2*18446744073709551616+s=o+x*y+k:=by
 have p0:0<=x*y:=Int.mul_nonneg hx.1 hy.1
 have p1:x*y<=18446744073709551615*18446744073709551615:=Int.mul_le_mul hx.2 hy.2 hy.1 (by omega)
 have M:=fun w=>eL x y w hx.1 hx.2 hy.1 hy.2
 generalize x*y=P at*
 unfold v7 at*
 refine ⟨((P%18446744073709551616+o+0)%18446744073709551616+k+0)%18446744073709551616,P/18446744073709551616+(P%18446744073709551616+o+0)/18446744073709551616+((P%18446744073709551616+o+0)%18446744073709551616+k+0)/18446744073709551616,
  P/18446744073709551616,P%18446744073709551616,(P%18446744073709551616+o+0)%18446744073709551616,(P%18446744073709551616+o+0)/18446744073709551616,P/18446744073709551616+(P%18446744073709551616+o+0)/18446744073709551616,
  ((P%18446744073709551616+o+0)%18446744073709551616+k+0)/18446744073709551616,⟨M,?_,?_,?_,?_⟩,by omega,by omega,by omega⟩
 ·exact fun w=>W6 _ o 0 (by omega) (by omega) (by omega) (by omega) w
 ·rw [IntKind.wrap_u64];omega
 ·exact fun w=>W6 _ k 0 (by omega) (by omega) (by omega) (by omega) w
 ·rw [IntKind.wrap_u64];omega
theorem AI (A B:Int) (w:World) (a0:0<=A) (a1:A<o6) (b0:0<=B) (b1:B<o6):
  Calls Tryz.prog 307 #[cJ A,cJ B] w fun e w'=>e= .returned (cJ (A*B/x6%o6))/\Below w.heap.size w w':=by
 obtain ⟨a,b,c,d,ha,hb,hc,hd,eA,nA⟩:=x9 A a0 a1
 obtain ⟨p,q,r,s,hp,hq,hr,hs,eB,nB⟩:=x9 B b0 b1
 have z:v7 0:=by unfold v7;omega
 obtain ⟨s1,k1,_,_,_,_,_,_,S1,ws1,wk1,e1⟩:=A4 d s 0 0 hd hs z z
 obtain ⟨s2,k2,_,_,_,_,_,_,S2,ws2,wk2,e2⟩:=A4 d r 0 k1 hd hr z wk1
 obtain ⟨s3,k3,_,_,_,_,_,_,S3,ws3,wk3,e3⟩:=A4 d q 0 k2 hd hq z wk2
 obtain ⟨s4,k4,_,_,_,_,_,_,S4,ws4,wk4,e4⟩:=A4 d p 0 k3 hd hp z wk3
 obtain ⟨s5,k5,_,_,_,_,_,_,S5,ws5,wk5,e5⟩:=A4 c s s2 0 hc hs ws2 z
 obtain ⟨s6,k6,_,_,_,_,_,_,S6,ws6,wk6,e6⟩:=A4 c r s3 k5 hc hr ws3 wk5
 obtain ⟨s7,k7,_,_,_,_,_,_,S7,ws7,wk7,e7⟩:=A4 c q s4 k6 hc hq ws4 wk6
 obtain ⟨s8,k8,_,_,_,_,_,_,S8,ws8,wk8,e8⟩:=A4 c p k4 k7 hc hp wk4 wk7
 obtain ⟨s9,k9,_,_,_,_,_,_,S9,ws9,wk9,e9⟩:=A4 b s s6 0 hb hs ws6 z
 obtain ⟨s10,k10,_,_,_,_,_,_,S10,ws10,wk10,e10⟩:=A4 b r s7 k9 hb hr ws7 wk9
 obtain ⟨s11,k11,_,_,_,_,_,_,S11,ws11,wk11,e11⟩:=A4 b q s8 k10 hb hq ws8 wk10
 obtain ⟨s12,k12,_,_,_,_,_,_,S12,ws12,wk12,e12⟩:=A4 b p k8 k11 hb hp wk8 wk11
 obtain ⟨s13,k13,_,_,_,_,_,_,S13,ws13,wk13,e13⟩:=A4 a s s10 0 ha hs ws10 z
 obtain ⟨s14,k14,_,_,_,_,_,_,S14,ws14,wk14,e14⟩:=A4 a r s11 k13 ha hr ws11 wk13
 obtain ⟨s15,k15,_,_,_,_,_,_,S15,ws15,wk15,e15⟩:=A4 a q s12 k14 ha hq ws12 wk14
 obtain ⟨s16,k16,_,_,_,_,_,_,S16,ws16,wk16,e16⟩:=A4 a p k12 k15 ha hp wk12 wk15
 have h:=OC _ _ _ _ _ _ _ _ _ _ _ _ _ _ _ _ _ _ _ _ _ _ _ _ _ _ _ _ _ _ _ _ _ _ _ _ _ _ _ _ _ _ _ _ _ _ _ _ _ _ _ _ _ _ _ _ _ _ _ _ _ _ _ _ _ _ _ _ _ _ _ _ _ _ _ _ _ _ _ _ _ _ _ _ _ _ _ _ _ _ _ _ _ _ _ _ _ _ _ _ _ _ _ _ _ _ _ _ _ _ _ _ _ _ _ _ _ _ _ _ _ _ _ _ _ _ _ _ _ _ _ _ _ _ _ _ w S1 S2 S3 S4 S5 S6 S7 S8 S9 S10 S11 S12 S13 S14 S15 S16 (b6 ⟨wk4,wk8,wk12,wk16⟩)
 have key:A*B=(k16*o6+nv s16 s15 s14 s13)*x6+((s9*18446744073709551616+s5)*18446744073709551616+s1):=by
  have x:A*B=((((((a*p*18446744073709551616+(a*q+b*p))*18446744073709551616+(a*r+b*q+c*p))*18446744073709551616+(a*s+b*r+c*q+d*p))*18446744073709551616+(b*s+c*r+d*q))*18446744073709551616+(c*s+d*r))*18446744073709551616+d*s):=by
   rw [eA,eB];unfold nv;grind
  rw [x]
  clear x h S1 S2 S3 S4 S5 S6 S7 S8 S9 S10 S11 S12 S13 S14 S15 S16 eA eB nA nB a0 a1 b0 b1 ha hb hc hd hp hq hr hs ws1 ws2 ws3 ws4 ws5 ws6 ws7 ws8 ws9 ws10 ws11 ws12 ws13 ws14 ws15 ws16 wk1 wk2 wk3 wk4 wk5 wk6 wk7 wk8 wk9 wk10 wk11 wk12 wk13 wk14 wk15 wk16
  unfold nv o6 x6 G9
  grind
 have l:0<=(s9*18446744073709551616+s5)*18446744073709551616+s1/\(s9*18446744073709551616+s5)*18446744073709551616+s1<x6:=by
  unfold v7 at ws1 ws5 ws9
  unfold x6 G9
  omega
 have dv:A*B/x6=k16*o6+nv s16 s15 s14 s13:=by
  rw [key,Int.add_comm,Int.add_mul_ediv_right _ _ (by have:=N8;omega),Int.ediv_eq_zero_of_lt l.1 l.2];omega
 rw [dv,nA,nB,iE s16 s15 s14 s13 k16 _ ws16 ws15 ws14 ws13 (Int.add_comm _ _),Z8 s16 s15 s14 s13 ws16 ws15 ws14 ws13]
 exact h
end Go.Proofs.YtdhbeoahpfimbaaGreat
