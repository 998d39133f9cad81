/- Part of the proof of TopDistances. -/
import Derived.Test.YtdhbeoahpfimbaaGreatNu
import Derived.Deep.Cut
import Derived.Deep.DeepCutAuto
import Derived.Deep.CutRange
import Derived.Deep.CutBlock
namespace Go.Proofs.YtdhbeoahpfimbaaGreat
open Go.RowKit
structure dD (x y o k s k2 hi lo s1 c1 h1 c2:Int):Prop where
 m:∀w,Calls Tryz.prog 109 #[.int .u64 x,.int .u64 y] w fun e w'=>e= .returned (.tuple #[.int .u64 hi,.int .u64 lo])/\w=w'
 a1:∀w,(callFunc 309 #[.int .u64 o,.int .u64 lo,.int .u64 0]).run Tryz.prog w= .ok (.value (.tuple #[.int .u64 s1,.int .u64 c1])) w
 w1:IntKind.u64.wrap (hi+c1)=h1
 a2:∀w,(callFunc 309 #[.int .u64 s1,.int .u64 k,.int .u64 0]).run Tryz.prog w= .ok (.value (.tuple #[.int .u64 s,.int .u64 c2])) w
 w2:IntKind.u64.wrap (h1+c2)=k2
theorem LJ (A:Addr) (w:World):(Instr.arrayAt 324 (.slice (some A) 4 6)).run Tryz.prog w= .ok (.pointer (some A)) w:=by kernel_rfl
theorem J2 {F:World->Prop} {W:World} (R:World->Prop) (hR:R W) (h:∀w',R w'->F w'):F W:=h W hR
theorem eY (k:Int) (h:0<=k/\k<=18446744073709551615) (w:World):(callFunc 309 #[.int .u64 0,.int .u64 k,.int .u64 0]).run Tryz.prog w= .ok (.value (.tuple #[.int .u64 k,.int .u64 0])) w:=by
 have:=W6 0 k 0 (by omega) h.1 (by omega) (by omega) w
 rw [show (0+k+0)%18446744073709551616=k by omega,show (0+k+0)/18446744073709551616=0 by omega] at this
 exact this
set_option maxRecDepth 100000 in
set_option maxHeartbeats 8000000 in
theorem LQ (a0 a1 a2 a3 b0 b1 b2 b3 s1 k1 hi1 lo1 p1 c1 h1 e1 s2 k2 hi2 lo2 p2 c2 h2 e2 s3 k3 hi3 lo3 p3 c3 h3 e3 s4 k4 hi4 lo4 p4 c4 h4 e4 s5 k5 hi5 lo5 p5 c5 h5 e5 s6 k6 hi6 lo6 p6 c6 h6 e6 s7 k7 hi7 lo7 p7 c7 h7 e7 s8 k8 hi8 lo8 p8 c8 h8 e8 s9 k9 hi9 lo9 p9 c9 h9 e9 s10 k10 hi10 lo10 p10 c10 h10 e10 s11 k11 hi11 lo11 p11 c11 h11 e11 s12 k12 hi12 lo12 p12 c12 h12 e12 s13 k13 hi13 lo13 p13 c13 h13 e13:Int) (w:World)
  (S1:dD a3 b1 0 0 s1 k1 hi1 lo1 p1 c1 h1 e1)
  (S2:dD a3 b0 0 k1 s2 k2 hi2 lo2 p2 c2 h2 e2)
  (S3:dD a2 b2 s1 0 s3 k3 hi3 lo3 p3 c3 h3 e3)
  (S4:dD a2 b1 s2 k3 s4 k4 hi4 lo4 p4 c4 h4 e4)
  (S5:dD a2 b0 k2 k4 s5 k5 hi5 lo5 p5 c5 h5 e5)
  (S6:dD a1 b3 s3 0 s6 k6 hi6 lo6 p6 c6 h6 e6)
  (S7:dD a1 b2 s4 k6 s7 k7 hi7 lo7 p7 c7 h7 e7)
  (S8:dD a1 b1 s5 k7 s8 k8 hi8 lo8 p8 c8 h8 e8)
  (S9:dD a1 b0 k5 k8 s9 k9 hi9 lo9 p9 c9 h9 e9)
  (S10:dD a0 b3 s7 0 s10 k10 hi10 lo10 p10 c10 h10 e10)
  (S11:dD a0 b2 s8 k10 s11 k11 hi11 lo11 p11 c11 h11 e11)
  (S12:dD a0 b1 s9 k11 s12 k12 hi12 lo12 p12 c12 h12 e12)
  (S13:dD a0 b0 k9 k12 s13 k13 hi13 lo13 p13 c13 h13 e13)
  (KU:Hid ((0<=k2/\k2<=18446744073709551615)/\(0<=k5/\k5<=18446744073709551615)/\(0<=k9/\k9<=18446744073709551615)/\(0<=k13/\k13<=18446744073709551615)))
  (_KB:Hid (0<=k2/\0<=k5/\0<=k9/\0<=k13)):
  Calls Tryz.prog 339 #[.agg #[.int .u64 a0,.int .u64 a1,.int .u64 a2,.int .u64 a3],.agg #[.int .u64 b0,.int .u64 b1,.int .u64 b2,.int .u64 b3]] w fun e w'=>e= .returned (.agg #[.int .u64 k13,.int .u64 s13,.int .u64 s12,.int .u64 s11])/\Below w.heap.size w w':=by
 go_enter Tryz.func339,Tryz.ntmps339
 go_upto_region 1 with fail
 (refine m9 ?_;intro w' hb;replace hb:=mU;obtain ⟨hcell,hfroz,hz,_⟩:=mB)
 obtain ⟨w4,rfl⟩:=nm w'
 go_wp2
 (refine m9 ?_;intro w' hb;replace hb:=mU;obtain ⟨hcell,hfroz,hz,_⟩:=mB)
 (try have y4:w4.heap.size<w'.heap.size:=by omega)
 refine wp_loop_rounds 5 ?_
 rw [rounds_succ]
 go_wp2
 refine wp_loop_rounds 5 ?_
 rw [rounds_succ]
 go_wp2
 rw [rounds_succ]
 go_wp2
 rw [rounds_succ]
 go_wp2
 go_quiet ((go_at_call 109;(with_reducible exact u6 (S1.m _))))
 obtain ⟨w1,rfl⟩:=nm w'
 (refine o7 (F:=Exit.then _ _ _ _) ?_;intro w' hb;replace hb:=mU;obtain ⟨hcell,hfroz,hz,_⟩:=mB)
 have f1:=S1.a1
 have f2:=S1.w1
 have f3:=S1.a2
 have f4:=S1.w2
 go_wp2
 clear f1 f2 f3 f4
 rw [rounds_succ]
 go_wp2
 go_quiet ((go_at_call 109;(with_reducible exact u6 (S2.m _))))
 obtain ⟨w1,rfl⟩:=nm w'
 (refine o7 (F:=Exit.then _ _ _ _) ?_;intro w' hb;replace hb:=mU;obtain ⟨hcell,hfroz,hz,_⟩:=mB)
 have f1:=S2.a1
 have f2:=S2.w1
 have f3:=S2.a2
 have f4:=S2.w2
 go_wp2
 clear f1 f2 f3 f4
 rw [rounds_succ]
 by_cases hk:0<k2
 focus
  have fa:∀w,(callFunc 309 #[.int .u64 0,.int .u64 k2,.int .u64 0]).run Tryz.prog w= .ok (.value (.tuple #[.int .u64 k2,.int .u64 0])) w:=eY _ (KU.out.1)
  go_wp2
  refine wp_loop_rounds 2 ?_
  rw [rounds_succ]
  go_wp2
  rw [rounds_succ]
  go_wp2
  clear fa
  refine J2 (F:=Code.rounds _ _ _ _ _) (fun wx=>Below w4.heap.size w4 wx/\w4.heap.size<wx.heap.size/\(∀o,wx.frozen? ⟨w4.heap.size,o,none⟩=false)/\wx.cell? ⟨w4.heap.size,0,none⟩=some (.int .u64 0)/\wx.cell? ⟨w4.heap.size,1,none⟩=some (.int .u64 0)/\wx.cell? ⟨w4.heap.size,2,none⟩=some (.int .u64 0)/\wx.cell? ⟨w4.heap.size,3,none⟩=some (.int .u64 k2)/\wx.cell? ⟨w4.heap.size,4,none⟩=some (.int .u64 s2)/\wx.cell? ⟨w4.heap.size,5,none⟩=some (.int .u64 s1)) ?_ ?_
  ·refine ⟨bv,?_,?_,?_,?_,?_,?_,?_,?_⟩
   all_goals first|(simp [go_sem, *];done)
 rotate_left
 focus
  have h0:=b6 (show k2=0 by have:=KU.out.1;omega)
  have hd:decide (0<k2)=false:=by simpa using hk
  go_wp2
  refine wp_loop_rounds 2 ?_
  rw [rounds_succ]
  go_wp2
  refine J2 (F:=Code.rounds _ _ _ _ _) (fun wx=>Below w4.heap.size w4 wx/\w4.heap.size<wx.heap.size/\(∀o,wx.frozen? ⟨w4.heap.size,o,none⟩=false)/\wx.cell? ⟨w4.heap.size,0,none⟩=some (.int .u64 0)/\wx.cell? ⟨w4.heap.size,1,none⟩=some (.int .u64 0)/\wx.cell? ⟨w4.heap.size,2,none⟩=some (.int .u64 0)/\wx.cell? ⟨w4.heap.size,3,none⟩=some (.int .u64 k2)/\wx.cell? ⟨w4.heap.size,4,none⟩=some (.int .u64 s2)/\wx.cell? ⟨w4.heap.size,5,none⟩=some (.int .u64 s1)) ?_ ?_
  ·refine ⟨bv,?_,?_,?_,?_,?_,?_,?_,?_⟩
   all_goals first|(simp [go_sem, *];done)|(rw [h0.out];simp [go_sem, *];done)
  clear hd h0
 all_goals
  clear hk
  intro w' ⟨hb,z,fz,g0,g1,g2,g3,g4,g5⟩
  replace hb:=mU;obtain ⟨hcell,hfroz,hz,_⟩:=mB
  rw [rounds_succ]
  go_wp2
  refine wp_loop_rounds 5 ?_
  rw [rounds_succ]
  go_wp2
  rw [rounds_succ]
  go_wp2
  go_quiet ((go_at_call 109;(with_reducible exact u6 (S3.m _))))
  obtain ⟨w1,rfl⟩:=nm w'
  (refine o7 (F:=Exit.then _ _ _ _) ?_;intro w' hb;replace hb:=mU;obtain ⟨hcell,hfroz,hz,_⟩:=mB)
  have f1:=S3.a1
  have f2:=S3.w1
  have f3:=S3.a2
  have f4:=S3.w2
  go_wp2
  clear f1 f2 f3 f4
  rw [rounds_succ]
  go_wp2
  go_quiet ((go_at_call 109;(with_reducible exact u6 (S4.m _))))
  obtain ⟨w1,rfl⟩:=nm w'
  (refine o7 (F:=Exit.then _ _ _ _) ?_;intro w' hb;replace hb:=mU;obtain ⟨hcell,hfroz,hz,_⟩:=mB)
  have f1:=S4.a1
  have f2:=S4.w1
  have f3:=S4.a2
  have f4:=S4.w2
  go_wp2
  clear f1 f2 f3 f4
  rw [rounds_succ]
  go_wp2
  go_quiet ((go_at_call 109;(with_reducible exact u6 (S5.m _))))
  obtain ⟨w1,rfl⟩:=nm w'
  (refine o7 (F:=Exit.then _ _ _ _) ?_;intro w' hb;replace hb:=mU;obtain ⟨hcell,hfroz,hz,_⟩:=mB)
  have f1:=S5.a1
  have f2:=S5.w1
  have f3:=S5.a2
  have f4:=S5.w2
  go_wp2
  clear f1 f2 f3 f4
  rw [rounds_succ]
  by_cases hk:0<k5
  focus
   have fa:∀w,(callFunc 309 #[.int .u64 0,.int .u64 k5,.int .u64 0]).run Tryz.prog w= .ok (.value (.tuple #[.int .u64 k5,.int .u64 0])) w:=eY _ (KU.out.2.1)
   go_wp2
   refine wp_loop_rounds 2 ?_
   rw [rounds_succ]
   go_wp2
   rw [rounds_succ]
   go_wp2
   clear fa
   refine J2 (F:=Code.rounds _ _ _ _ _) (fun wx=>Below w4.heap.size w4 wx/\w4.heap.size<wx.heap.size/\(∀o,wx.frozen? ⟨w4.heap.size,o,none⟩=false)/\wx.cell? ⟨w4.heap.size,0,none⟩=some (.int .u64 0)/\wx.cell? ⟨w4.heap.size,1,none⟩=some (.int .u64 0)/\wx.cell? ⟨w4.heap.size,2,none⟩=some (.int .u64 k5)/\wx.cell? ⟨w4.heap.size,3,none⟩=some (.int .u64 s5)/\wx.cell? ⟨w4.heap.size,4,none⟩=some (.int .u64 s4)/\wx.cell? ⟨w4.heap.size,5,none⟩=some (.int .u64 s3)) ?_ ?_
   ·refine ⟨bv,?_,?_,?_,?_,?_,?_,?_,?_⟩
    all_goals first|(simp [go_sem, *];done)
  rotate_left
  focus
   have h0:=b6 (show k5=0 by have:=KU.out.2.1;omega)
   have hd:decide (0<k5)=false:=by simpa using hk
   go_wp2
   refine wp_loop_rounds 2 ?_
   rw [rounds_succ]
   go_wp2
   refine J2 (F:=Code.rounds _ _ _ _ _) (fun wx=>Below w4.heap.size w4 wx/\w4.heap.size<wx.heap.size/\(∀o,wx.frozen? ⟨w4.heap.size,o,none⟩=false)/\wx.cell? ⟨w4.heap.size,0,none⟩=some (.int .u64 0)/\wx.cell? ⟨w4.heap.size,1,none⟩=some (.int .u64 0)/\wx.cell? ⟨w4.heap.size,2,none⟩=some (.int .u64 k5)/\wx.cell? ⟨w4.heap.size,3,none⟩=some (.int .u64 s5)/\wx.cell? ⟨w4.heap.size,4,none⟩=some (.int .u64 s4)/\wx.cell? ⟨w4.heap.size,5,none⟩=some (.int .u64 s3)) ?_ ?_
   ·refine ⟨bv,?_,?_,?_,?_,?_,?_,?_,?_⟩
    all_goals first|(simp [go_sem, *];done)|(rw [h0.out];simp [go_sem, *];done)
   clear hd h0
  all_goals
   clear hk
   intro w' ⟨hb,z,fz,g0,g1,g2,g3,g4,g5⟩
   replace hb:=mU;obtain ⟨hcell,hfroz,hz,_⟩:=mB
   rw [rounds_succ]
   go_wp2
   refine wp_loop_rounds 5 ?_
   rw [rounds_succ]
   go_wp2
   go_quiet ((go_at_call 109;(with_reducible exact u6 (S6.m _))))
   obtain ⟨w1,rfl⟩:=nm w'
   (refine o7 (F:=Exit.then _ _ _ _) ?_;intro w' hb;replace hb:=mU;obtain ⟨hcell,hfroz,hz,_⟩:=mB)
   have f1:=S6.a1
   have f2:=S6.w1
   have f3:=S6.a2
   have f4:=S6.w2
   go_wp2
   clear f1 f2 f3 f4
   rw [rounds_succ]
   go_wp2
   go_quiet ((go_at_call 109;(with_reducible exact u6 (S7.m _))))
   obtain ⟨w1,rfl⟩:=nm w'
   (refine o7 (F:=Exit.then _ _ _ _) ?_;intro w' hb;replace hb:=mU;obtain ⟨hcell,hfroz,hz,_⟩:=mB)
   have f1:=S7.a1
   have f2:=S7.w1
   have f3:=S7.a2
   have f4:=S7.w2
   go_wp2
   clear f1 f2 f3 f4
   rw [rounds_succ]
   go_wp2
   go_quiet ((go_at_call 109;(with_reducible exact u6 (S8.m _))))
   obtain ⟨w1,rfl⟩:=nm w'
   (refine o7 (F:=Exit.then _ _ _ _) ?_;intro w' hb;replace hb:=mU;obtain ⟨hcell,hfroz,hz,_⟩:=mB)
   have f1:=S8.a1
   have f2:=S8.w1
   have f3:=S8.a2
   have f4:=S8.w2
   go_wp2
   clear f1 f2 f3 f4
   rw [rounds_succ]
   go_wp2
   go_quiet ((go_at_call 109;(with_reducible exact u6 (S9.m _))))
   obtain ⟨w1,rfl⟩:=nm w'
   (refine o7 (F:=Exit.then _ _ _ _) ?_;intro w' hb;replace hb:=mU;obtain ⟨hcell,hfroz,hz,_⟩:=mB)
   have f1:=S9.a1
   have f2:=S9.w1
   have f3:=S9.a2
   have f4:=S9.w2
   go_wp2
   clear f1 f2 f3 f4
   rw [rounds_succ]
   by_cases hk:0<k9
   focus
    have fa:∀w,(callFunc 309 #[.int .u64 0,.int .u64 k9,.int .u64 0]).run Tryz.prog w= .ok (.value (.tuple #[.int .u64 k9,.int .u64 0])) w:=eY _ (KU.out.2.2.1)
    go_wp2
    refine wp_loop_rounds 2 ?_
    rw [rounds_succ]
    go_wp2
    rw [rounds_succ]
    go_wp2
    clear fa
    refine J2 (F:=Code.rounds _ _ _ _ _) (fun wx=>Below w4.heap.size w4 wx/\w4.heap.size<wx.heap.size/\(∀o,wx.frozen? ⟨w4.heap.size,o,none⟩=false)/\wx.cell? ⟨w4.heap.size,0,none⟩=some (.int .u64 0)/\wx.cell? ⟨w4.heap.size,1,none⟩=some (.int .u64 k9)/\wx.cell? ⟨w4.heap.size,2,none⟩=some (.int .u64 s9)/\wx.cell? ⟨w4.heap.size,3,none⟩=some (.int .u64 s8)/\wx.cell? ⟨w4.heap.size,4,none⟩=some (.int .u64 s7)/\wx.cell? ⟨w4.heap.size,5,none⟩=some (.int .u64 s6)) ?_ ?_
    ·refine ⟨bv,?_,?_,?_,?_,?_,?_,?_,?_⟩
     all_goals first|(simp [go_sem, *];done)
   rotate_left
   focus
    have h0:=b6 (show k9=0 by have:=KU.out.2.2.1;omega)
    have hd:decide (0<k9)=false:=by simpa using hk
    go_wp2
    refine wp_loop_rounds 2 ?_
    rw [rounds_succ]
    go_wp2
    refine J2 (F:=Code.rounds _ _ _ _ _) (fun wx=>Below w4.heap.size w4 wx/\w4.heap.size<wx.heap.size/\(∀o,wx.frozen? ⟨w4.heap.size,o,none⟩=false)/\wx.cell? ⟨w4.heap.size,0,none⟩=some (.int .u64 0)/\wx.cell? ⟨w4.heap.size,1,none⟩=some (.int .u64 k9)/\wx.cell? ⟨w4.heap.size,2,none⟩=some (.int .u64 s9)/\wx.cell? ⟨w4.heap.size,3,none⟩=some (.int .u64 s8)/\wx.cell? ⟨w4.heap.size,4,none⟩=some (.int .u64 s7)/\wx.cell? ⟨w4.heap.size,5,none⟩=some (.int .u64 s6)) ?_ ?_
    ·refine ⟨bv,?_,?_,?_,?_,?_,?_,?_,?_⟩
     all_goals first|(simp [go_sem, *];done)|(rw [h0.out];simp [go_sem, *];done)
    clear hd h0
   all_goals
    clear hk
    intro w' ⟨hb,z,fz,g0,g1,g2,g3,g4,g5⟩
    replace hb:=mU;obtain ⟨hcell,hfroz,hz,_⟩:=mB
    rw [rounds_succ]
    go_wp2
    refine wp_loop_rounds 5 ?_
    rw [rounds_succ]
    go_wp2
    go_quiet ((go_at_call 109;(with_reducible exact u6 (S10.m _))))
    obtain ⟨w1,rfl⟩:=nm w'
    (refine o7 (F:=Exit.then _ _ _ _) ?_;intro w' hb;replace hb:=mU;obtain ⟨hcell,hfroz,hz,_⟩:=mB)
    have f1:=S10.a1
    have f2:=S10.w1
    have f3:=S10.a2
    have f4:=S10.w2
    go_wp2
    clear f1 f2 f3 f4
    rw [rounds_succ]
    go_wp2
    go_quiet ((go_at_call 109;(with_reducible exact u6 (S11.m _))))
    obtain ⟨w1,rfl⟩:=nm w'
    (refine o7 (F:=Exit.then _ _ _ _) ?_;intro w' hb;replace hb:=mU;obtain ⟨hcell,hfroz,hz,_⟩:=mB)
    have f1:=S11.a1
    have f2:=S11.w1
    have f3:=S11.a2
    have f4:=S11.w2
    go_wp2
    clear f1 f2 f3 f4
    rw [rounds_succ]
    go_wp2
    go_quiet ((go_at_call 109;(with_reducible exact u6 (S12.m _))))
    obtain ⟨w1,rfl⟩:=nm w'
    (refine o7 (F:=Exit.then _ _ _ _) ?_;intro w' hb;replace hb:=mU;obtain ⟨hcell,hfroz,hz,_⟩:=mB)
    have f1:=S12.a1
    have f2:=S12.w1
    have f3:=S12.a2
    have f4:=S12.w2
    go_wp2
    clear f1 f2 f3 f4
    rw [rounds_succ]
    go_wp2
    go_quiet ((go_at_call 109;(with_reducible exact u6 (S13.m _))))
    obtain ⟨w1,rfl⟩:=nm w'
    (refine o7 (F:=Exit.then _ _ _ _) ?_;intro w' hb;replace hb:=mU;obtain ⟨hcell,hfroz,hz,_⟩:=mB)
    have f1:=S13.a1
    have f2:=S13.w1
    have f3:=S13.a2
    have f4:=S13.w2
    go_wp2
    clear f1 f2 f3 f4
    rw [rounds_succ]
    by_cases hk:0<k13
    focus
     have fa:∀w,(callFunc 309 #[.int .u64 0,.int .u64 k13,.int .u64 0]).run Tryz.prog w= .ok (.value (.tuple #[.int .u64 k13,.int .u64 0])) w:=eY _ (KU.out.2.2.2)
     go_wp2
     refine wp_loop_rounds 2 ?_
     rw [rounds_succ]
     go_wp2
     rw [rounds_succ]
     go_wp2
     clear fa
     refine J2 (F:=Code.rounds _ _ _ _ _) (fun wx=>Below w4.heap.size w4 wx/\w4.heap.size<wx.heap.size/\(∀o,wx.frozen? ⟨w4.heap.size,o,none⟩=false)/\wx.cell? ⟨w4.heap.size,0,none⟩=some (.int .u64 k13)/\wx.cell? ⟨w4.heap.size,1,none⟩=some (.int .u64 s13)/\wx.cell? ⟨w4.heap.size,2,none⟩=some (.int .u64 s12)/\wx.cell? ⟨w4.heap.size,3,none⟩=some (.int .u64 s11)/\wx.cell? ⟨w4.heap.size,4,none⟩=some (.int .u64 s10)/\wx.cell? ⟨w4.heap.size,5,none⟩=some (.int .u64 s6)) ?_ ?_
     ·refine ⟨bv,?_,?_,?_,?_,?_,?_,?_,?_⟩
      all_goals first|(simp [go_sem, *];done)
    rotate_left
    focus
     have h0:=b6 (show k13=0 by have:=KU.out.2.2.2;omega)
     have hd:decide (0<k13)=false:=by simpa using hk
     go_wp2
     refine wp_loop_rounds 2 ?_
     rw [rounds_succ]
     go_wp2
     refine J2 (F:=Code.rounds _ _ _ _ _) (fun wx=>Below w4.heap.size w4 wx/\w4.heap.size<wx.heap.size/\(∀o,wx.frozen? ⟨w4.heap.size,o,none⟩=false)/\wx.cell? ⟨w4.heap.size,0,none⟩=some (.int .u64 k13)/\wx.cell? ⟨w4.heap.size,1,none⟩=some (.int .u64 s13)/\wx.cell? ⟨w4.heap.size,2,none⟩=some (.int .u64 s12)/\wx.cell? ⟨w4.heap.size,3,none⟩=some (.int .u64 s11)/\wx.cell? ⟨w4.heap.size,4,none⟩=some (.int .u64 s10)/\wx.cell? ⟨w4.heap.size,5,none⟩=some (.int .u64 s6)) ?_ ?_
     ·refine ⟨bv,?_,?_,?_,?_,?_,?_,?_,?_⟩
      all_goals first|(simp [go_sem, *];done)|(rw [h0.out];simp [go_sem, *];done)
     clear hd h0
    all_goals
     clear hk
     intro w' ⟨hb,z,fz,g0,g1,g2,g3,g4,g5⟩
     replace hb:=mU;obtain ⟨hcell,hfroz,hz,_⟩:=mB
     have arr:=fun w=>LJ ⟨w4.heap.size,0,none⟩ w
     rw [rounds_succ]
     go_wp2
     exact bodyPost_ret (v:= .agg #[.int .u64 k13,.int .u64 s13,.int .u64 s12,.int .u64 s11]) (by first|(simp only [results,Tryz.results339];go_simp;done)|simp [results,Tryz.results339,go_sem, *]) rfl ⟨rfl,bv⟩
def iM (a0 a1 a2 a3 b0 b1 b2 b3:Int):Int:=
 (((a0*b0*18446744073709551616+(a0*b1+a1*b0))*18446744073709551616+(a0*b2+a1*b1+a2*b0))*18446744073709551616+(a0*b3+a1*b2+a2*b1+a3*b0))*18446744073709551616+(a1*b3+a2*b2+a3*b1)
def R4 (A B:Int):Int:=
 iM (A/(G9*G9*G9)) (A/(G9*G9)%G9) (A/G9%G9) (A%G9) (B/(G9*G9*G9)) (B/(G9*G9)%G9) (B/G9%G9) (B%G9)/(G9*G9)
theorem L7 (x y o k:Int) (hx:v7 x) (hy:v7 y) (ho:v7 o) (hk:v7 k):∃s k2 hi lo s1 c1 h1 c2,dD x y o k s k2 hi lo s1 c1 h1 c2/\v7 s/\v7 k2/\k2*18446744073709551616+s=o+x*y+k:=by
 have p0:0<=x*y:=Int.mul_nonneg hx.1 hy.1
 have p1:x*y<=18446744073709551615*18446744073709551615:=Int.mul_le_mul hx.2 hy.2 hy.1 (by omega)
 have M:=fun w=>eL x y w hx.1 hx.2 hy.1 hy.2
 generalize x*y=P at*
 unfold v7 at*
 refine ⟨((o+P%18446744073709551616+0)%18446744073709551616+k+0)%18446744073709551616,P/18446744073709551616+(o+P%18446744073709551616+0)/18446744073709551616+((o+P%18446744073709551616+0)%18446744073709551616+k+0)/18446744073709551616,
  P/18446744073709551616,P%18446744073709551616,(o+P%18446744073709551616+0)%18446744073709551616,(o+P%18446744073709551616+0)/18446744073709551616,P/18446744073709551616+(o+P%18446744073709551616+0)/18446744073709551616,
  ((o+P%18446744073709551616+0)%18446744073709551616+k+0)/18446744073709551616,⟨M,?_,?_,?_,?_⟩,by omega,by omega,by omega⟩
 ·exact fun w=>W6 o _ 0 (by omega) (by omega) (by omega) (by omega) w
 ·rw [IntKind.wrap_u64];omega
 ·exact fun w=>W6 _ k 0 (by omega) (by omega) (by omega) (by omega) w
 ·rw [IntKind.wrap_u64];omega
theorem bC (A B:Int) (a0:0<=A) (a1:A<o6) (b0:0<=B) (b1:B<o6):0<=R4 A B/\R4 A B<o6/\R4 A B*o6<=A*B/\A*B<R4 A B*o6+2*o6:=by
 obtain ⟨a,b,c,d,ha,hb,hc,hd,eA,nA⟩:=x9 A a0 a1
 obtain ⟨p,q,r,s,hp,hq,hr,hs,eB,nB⟩:=x9 B b0 b1
 have dA:=L6 a b c d ha hb hc hd
 have dB:=L6 p q r s hp hq hr hs
 have hm:R4 A B=iM a b c d p q r s/(G9*G9):=by
  unfold R4
  rw [eA,eB,dA.1,dA.2.1,dA.2.2.1,dA.2.2.2.1,dB.1,dB.2.1,dB.2.2.1,dB.2.2.2.1]
 have hAB:A*B=iM a b c d p q r s*(G9*G9)+((c*s+d*r)*18446744073709551616+d*s):=by
  rw [eA,eB];unfold iM nv G9;grind
 have m1:=Int.mul_nonneg hc.1 hs.1
 have m2:=Int.mul_nonneg hd.1 hr.1
 have m3:=Int.mul_nonneg hd.1 hs.1
 have n1:c*s<=18446744073709551615*18446744073709551615:=Int.mul_le_mul hc.2 hs.2 hs.1 (by omega)
 have n2:d*r<=18446744073709551615*18446744073709551615:=Int.mul_le_mul hd.2 hr.2 hr.1 (by omega)
 have n3:d*s<=18446744073709551615*18446744073709551615:=Int.mul_le_mul hd.2 hs.2 hs.1 (by omega)
 have P0:0<=iM a b c d p q r s:=by
  have f:∀x y:Int,v7 x->v7 y->0<=x*y:=fun x y hx hy=>Int.mul_nonneg hx.1 hy.1
  have:=f a p ha hp;have:=f a q ha hq;have:=f b p hb hp;have:=f a r ha hr;have:=f b q hb hq;have:=f c p hc hp
  have:=f a s ha hs;have:=f b r hb hr;have:=f c q hc hq;have:=f d p hd hp;have:=f b s hb hs;have:=f c r hc hr;have:=f d q hd hq
  unfold iM;omega
 have AB1:A*B<=(o6-1)*(o6-1):=Int.mul_le_mul (by omega) (by omega) b0 (by omega)
 have W0:(o6-1)*(o6-1)<o6*o6:=by unfold o6 G9;omega
 have AB2:A*B<o6*o6:=by omega
 rw [hm]
 clear AB1 W0 dA dB eA eB nA nB a0 a1 b0 b1
 generalize iM a b c d p q r s=P at*
 generalize A*B=T at*
 generalize c*s=x1 at*
 generalize d*r=x2 at*
 generalize d*s=x3 at*
 clear hm ha hb hc hd hp hq hr hs
 unfold o6 G9 at*
 refine ⟨by omega,by omega,by omega,by omega⟩
theorem wL (A B:Int) (a0:0<=A) (a1:A<o6) (b0:0<=B) (b1:B<o6):0<=R4 A B/\R4 A B<o6:=⟨(bC A B a0 a1 b0 b1).1,(bC A B a0 a1 b0 b1).2.1⟩
theorem pU (A B:Int) (w:World) (a0:0<=A) (a1:A<o6) (b0:0<=B) (b1:B<o6):
  Calls Tryz.prog 339 #[cJ A,cJ B] w fun e w'=>e= .returned (cJ (R4 A B))/\Below w.heap.size w w'/\0<=R4 A B/\R4 A B<o6/\R4 A B*o6<=A*B/\A*B<R4 A B*o6+2*o6:=by
 obtain ⟨a,b,c,d,ha,hb,hc,hd,eA,nA⟩:=x9 A a0 a1
 obtain ⟨p,q,r,s,hp,hq,hr,hs,eB,nB⟩:=x9 B b0 b1
 have z:v7 0:=⟨by omega,by omega⟩
 obtain ⟨s1,k1,hi1,lo1,p1,c1,h1,e1,S1,ws1,wk1,E1⟩:=L7 d q 0 0 hd hq z z
 obtain ⟨s2,k2,hi2,lo2,p2,c2,h2,e2,S2,ws2,wk2,E2⟩:=L7 d p 0 k1 hd hp z wk1
 obtain ⟨s3,k3,hi3,lo3,p3,c3,h3,e3,S3,ws3,wk3,E3⟩:=L7 c r s1 0 hc hr ws1 z
 obtain ⟨s4,k4,hi4,lo4,p4,c4,h4,e4,S4,ws4,wk4,E4⟩:=L7 c q s2 k3 hc hq ws2 wk3
 obtain ⟨s5,k5,hi5,lo5,p5,c5,h5,e5,S5,ws5,wk5,E5⟩:=L7 c p k2 k4 hc hp wk2 wk4
 obtain ⟨s6,k6,hi6,lo6,p6,c6,h6,e6,S6,ws6,wk6,E6⟩:=L7 b s s3 0 hb hs ws3 z
 obtain ⟨s7,k7,hi7,lo7,p7,c7,h7,e7,S7,ws7,wk7,E7⟩:=L7 b r s4 k6 hb hr ws4 wk6
 obtain ⟨s8,k8,hi8,lo8,p8,c8,h8,e8,S8,ws8,wk8,E8⟩:=L7 b q s5 k7 hb hq ws5 wk7
 obtain ⟨s9,k9,hi9,lo9,p9,c9,h9,e9,S9,ws9,wk9,E9⟩:=L7 b p k5 k8 hb hp wk5 wk8
 obtain ⟨s10,k10,hi10,lo10,p10,c10,h10,e10,S10,ws10,wk10,E10⟩:=L7 a s s7 0 ha hs ws7 z
 obtain ⟨s11,k11,hi11,lo11,p11,c11,h11,e11,S11,ws11,wk11,E11⟩:=L7 a r s8 k10 ha hr ws8 wk10
 obtain ⟨s12,k12,hi12,lo12,p12,c12,h12,e12,S12,ws12,wk12,E12⟩:=L7 a q s9 k11 ha hq ws9 wk11
 obtain ⟨s13,k13,hi13,lo13,p13,c13,h13,e13,S13,ws13,wk13,E13⟩:=L7 a p k9 k12 ha hp wk9 wk12
 have h:=LQ a b c d p q r s _ _ _ _ _ _ _ _ _ _ _ _ _ _ _ _ _ _ _ _ _ _ _ _ _ _ _ _ _ _ _ _ _ _ _ _ _ _ _ _ _ _ _ _ _ _ _ _ _ _ _ _ _ _ _ _ _ _ _ _ _ _ _ _ _ _ _ _ _ _ _ _ _ _ _ _ _ _ _ _ _ _ _ _ _ _ _ _ _ _ _ _ _ _ _ _ _ _ _ _ _ _ _ _ w S1 S2 S3 S4 S5 S6 S7 S8 S9 S10 S11 S12 S13 (b6 ⟨⟨wk2.1,wk2.2⟩,⟨wk5.1,wk5.2⟩,⟨wk9.1,wk9.2⟩,⟨wk13.1,wk13.2⟩⟩) (b6 ⟨wk2.1,wk5.1,wk9.1,wk13.1⟩)
 have k:=L6 k13 s13 s12 s11 wk13 ws13 ws12 ws11
 have total:iM a b c d p q r s=nv k13 s13 s12 s11*(G9*G9)+(s10*18446744073709551616+s6):=by
  unfold iM nv G9
  omega
 have dA:=L6 a b c d ha hb hc hd
 have dB:=L6 p q r s hp hq hr hs
 have hm:R4 A B=nv k13 s13 s12 s11:=by
  unfold R4
  rw [eA,eB,dA.1,dA.2.1,dA.2.2.1,dA.2.2.2.1,dB.1,dB.2.1,dB.2.2.1,dB.2.2.2.1,total]
  generalize nv k13 s13 s12 s11=N at*
  unfold v7 at ws10 ws6
  unfold G9
  omega
 have hAB:A*B=iM a b c d p q r s*(G9*G9)+((c*s+d*r)*18446744073709551616+d*s):=by
  rw [eA,eB];unfold iM nv G9;grind
 have m1:=Int.mul_nonneg hc.1 hs.1
 have m2:=Int.mul_nonneg hd.1 hr.1
 have m3:=Int.mul_nonneg hd.1 hs.1
 have n1:c*s<=18446744073709551615*18446744073709551615:=Int.mul_le_mul hc.2 hs.2 hs.1 (by omega)
 have n2:d*r<=18446744073709551615*18446744073709551615:=Int.mul_le_mul hd.2 hr.2 hr.1 (by omega)
 have n3:d*s<=18446744073709551615*18446744073709551615:=Int.mul_le_mul hd.2 hs.2 hs.1 (by omega)
 rw [nA,nB]
 rw [total] at hAB
 rw [hm]
 refine h.mono fun _ _ ⟨he,hw⟩=>⟨?_,hw,k.2.2.2.2.1,k.2.2.2.2.2,?_,?_⟩
 ·rw [he,Z8 k13 s13 s12 s11 wk13 ws13 ws12 ws11]
 ·rw [hAB]
  generalize nv k13 s13 s12 s11=N at*
  unfold v7 at ws10 ws6
  unfold o6 G9
  omega
 ·rw [hAB]
  generalize nv k13 s13 s12 s11=N at*
  unfold v7 at ws10 ws6
  unfold o6 G9
  omega
end Go.Proofs.YtdhbeoahpfimbaaGreat
