/- Part of the proof of TopDistances. -/
import Derived.Test.YtdhbeoahpfimbaaGreatVcA
namespace Go.Proofs.YtdhbeoahpfimbaaGreat
open Go.RowKit
set_option maxRecDepth 100000 in
set_option maxHeartbeats 8000000 in
theorem XC (a b c d cl ch dl dh el eh xl xh yl yh zl zh:Int) (w:World)
  (V1:CB 45 #[.agg #[.int .i64 a,.int .i64 b]] (.bool true))
  (V2:CB 45 #[.agg #[.int .i64 c,.int .i64 d]] (.bool true))
  (C1:CB 124 #[.agg #[.int .i64 a,.int .i64 b]] (.tuple #[.agg #[.int .i64 cl,.int .i64 ch],.int .i64 0]))
  (C2:CB 124 #[.agg #[.int .i64 c,.int .i64 d]] (.tuple #[.agg #[.int .i64 dl,.int .i64 dh],.int .i64 0]))
  (M1:CB 150 #[.agg #[.int .i64 cl,.int .i64 ch],.agg #[.int .i64 dl,.int .i64 dh]] (.tuple #[.agg #[.int .i64 xl,.int .i64 xh],.int .i64 0]))
  (S2:CB 125 #[.agg #[.int .i64 c,.int .i64 d]] (.tuple #[.agg #[.int .i64 el,.int .i64 eh],.int .i64 0]))
  (M2:CB 150 #[.agg #[.int .i64 cl,.int .i64 ch],.agg #[.int .i64 el,.int .i64 eh]] (.tuple #[.agg #[.int .i64 yl,.int .i64 yh],.int .i64 0]))
  (S1:CB 125 #[.agg #[.int .i64 a,.int .i64 b]] (.tuple #[.agg #[.int .i64 zl,.int .i64 zh],.int .i64 0])):
  Calls Tryz.prog 18 #[.agg #[.int .i64 a,.int .i64 b],.agg #[.int .i64 c,.int .i64 d]] w fun e w'=>e= .returned (.tuple #[.agg #[.int .i64 xl,.int .i64 xh,.int .i64 yl,.int .i64 yh,.int .i64 zl,.int .i64 zh],.int .i64 0])/\Below w.heap.size w w':=by
 go_enter Tryz.func18,Tryz.ntmps18
 go_upto_region 4 with (first|(go_at_call 45;((with_reducible refine am (V1.out _) ?_);intro w' hb);replace hb:=mU;obtain ⟨hcell,hfroz,hz,z6,z7,z8,z9,_⟩:=oH;obtain ⟨w1,rfl⟩:=nm w')|(go_at_call 45;((with_reducible refine am (V2.out _) ?_);intro w' hb);replace hb:=mU;obtain ⟨hcell,hfroz,hz,z6,z7,z8,z9,_⟩:=oH;obtain ⟨w2,rfl⟩:=nm w'))
 (refine m9 ?_;intro w' hb;replace hb:=mU;obtain ⟨hcell,hfroz,hz,z6,z7,z8,z9,_⟩:=oH)
 have hok:I6 w' w2.heap.size:=⟨by simp [go_sem, *],by simp [go_sem, *]⟩
 have hw0:Below w.heap.size w w':=bw
 have hz2:w.heap.size+1+1<w2.heap.size:=by omega
 have t0:=cq w' w.heap.size 0 (a)
 have t1:=cq w' w.heap.size 1 (b)
 have u0:=cq w' (w.heap.size+1) 0 (c)
 have u1:=cq w' (w.heap.size+1) 1 (d)
 have r0:=cq w' (w.heap.size+1+1) 0 (0)
 have r1:=cq w' (w.heap.size+1+1) 1 (0)
 have r2:=cq w' (w.heap.size+1+1) 2 (0)
 have r3:=cq w' (w.heap.size+1+1) 3 (0)
 have r4:=cq w' (w.heap.size+1+1) 4 (0)
 have r5:=cq w' (w.heap.size+1+1) 5 (0)
 have rf:∀o,w'.frozen? ⟨w.heap.size+1+1,o,none⟩=false:=by intro o;simp [go_sem, *]
 clear hcell hfroz hz hb
 obtain ⟨V0,rfl⟩:=nm w'
 obtain ⟨B1,hB1⟩:∃B,w2.heap.size=B:=⟨_,rfl⟩
 rw [hB1] at hok hz2 ⊢
 have g2:w.heap.size+1+1<V0.heap.size:=World.block_lt_of_cell? _ _ r0
 have g1:w.heap.size+1<V0.heap.size:=by omega
 have g0:w.heap.size<V0.heap.size:=by omega
 have K1:=b6 fun w' (hb:Below V0.heap.size V0 w')=>qO a b cl ch B1 w' (b9 hb hok) C1
 go_upto_region 5 with (go_at_call 62;((with_reducible refine (K1.out _ ?kb).mono ?_);(case kb=>(exact bw;done));rintro e w' ⟨rfl,hb⟩);replace hb:=mU;obtain ⟨hcell,hfroz,hz,z6,z7,z8,z9,_⟩:=oH;obtain ⟨w3,rfl⟩:=nm w')
 (refine m9 ?_;intro w' hb;replace hb:=mU;obtain ⟨hcell,hfroz,hz,z6,z7,z8,z9,_⟩:=oH)
 have hw1:Below V0.heap.size V0 w':=bw
 have hw2:Below w.heap.size w w':=Below.trans hw0 (hw1.mono (by omega))
 have hok:=b9 hw1 hok
 have l0:=cq w' w3.heap.size 0 (cl)
 have l1:=cq w' w3.heap.size 1 (ch)
 have t0:=cell_later hw1 t0
 have t1:=cell_later hw1 t1
 have u0:=cell_later hw1 u0
 have u1:=cell_later hw1 u1
 have r0:=cell_later hw1 r0
 have r1:=cell_later hw1 r1
 have r2:=cell_later hw1 r2
 have r3:=cell_later hw1 r3
 have r4:=cell_later hw1 r4
 have r5:=cell_later hw1 r5
 have rf:∀o,w'.frozen? ⟨w.heap.size+1+1,o,none⟩=false:=fun o=>(hw1.frozen (p:=⟨w.heap.size+1+1,o,none⟩) g2).trans (rf o)
 clear hcell hfroz hz hb hw0 hw1 g0 g1 g2 K1
 obtain ⟨V1,rfl⟩:=nm w'
 have gl:w3.heap.size<V1.heap.size:=World.block_lt_of_cell? _ _ l0
 generalize w3.heap.size=BL at*
 have g2:w.heap.size+1+1<V1.heap.size:=World.block_lt_of_cell? _ _ r0
 have g1:w.heap.size+1<V1.heap.size:=by omega
 have g0:w.heap.size<V1.heap.size:=by omega
 refine n9 19 (by kernel_rfl) (by kernel_rfl) ?_
 simp only [List.take_succ_cons,List.take_zero,List.drop_succ_cons,List.drop_zero]
 repeat (first|go_big_quiet_step ((first|(go_at_call 62;(with_reducible exact Calls.regrown_of (qO c d dl dh B1 _ (u8 hok) C2)))|(go_at_call 64;(with_reducible exact Calls.regrown_of (F7 cl ch dl dh xl xh B1 _ (u8 hok) M1)))|(go_at_call 65;(with_reducible exact Calls.regrown_of (kW c d el eh B1 _ (u8 hok) S2)))|(go_at_call 64;(with_reducible exact Calls.regrown_of (F7 cl ch el eh yl yh B1 _ (u8 hok) M2)))|(go_at_call 65;(with_reducible exact Calls.regrown_of (kW a b zl zh B1 _ (u8 hok) S1)))|(go_at_call 63;(with_reducible exact Calls.regrown_of (oC xl xh yl yh zl zh B1 _ (u8 hok))))))|quiet_step ((first|(go_at_call 62;(with_reducible exact Calls.regrown_of (qO c d dl dh B1 _ (u8 hok) C2)))|(go_at_call 64;(with_reducible exact Calls.regrown_of (F7 cl ch dl dh xl xh B1 _ (u8 hok) M1)))|(go_at_call 65;(with_reducible exact Calls.regrown_of (kW c d el eh B1 _ (u8 hok) S2)))|(go_at_call 64;(with_reducible exact Calls.regrown_of (F7 cl ch el eh yl yh B1 _ (u8 hok) M2)))|(go_at_call 65;(with_reducible exact Calls.regrown_of (kW a b zl zh B1 _ (u8 hok) S1)))|(go_at_call 63;(with_reducible exact Calls.regrown_of (oC xl xh yl yh zl zh B1 _ (u8 hok)))))))
 refine wpQuiet_nil ?_;intro w' hw';have hb:=i8 hw';clear hw';replace hb:=mU;obtain ⟨hcell,hfroz,hz,z6,z7,z8,z9,_⟩:=oH
 go_wp2
 exact bodyPost_ret (v:= .tuple #[.agg #[.int .i64 xl,.int .i64 xh,.int .i64 yl,.int .i64 yh,.int .i64 zl,.int .i64 zh],.int .i64 0]) (by first|(simp only [results,Tryz.results18];go_simp;done)|simp [results,Tryz.results18,go_sem, *]) rfl ⟨rfl,bw⟩
set_option maxRecDepth 100000 in
set_option maxHeartbeats 8000000 in
theorem yG (xa xb ya yb za zb xc xd yc yd zc zd a1 a2 b1 b2 c1 c2 d1 d2 e1 e2 f1 f2 pl ph ql qh rl rh:Int) (B1:Nat) (w:World) (ok:I6 w B1)
  (M1:CB 150 #[.agg #[.int .i64 ya,.int .i64 yb],.agg #[.int .i64 zc,.int .i64 zd]] (.tuple #[.agg #[.int .i64 a1,.int .i64 a2],.int .i64 0]))
  (M2:CB 150 #[.agg #[.int .i64 za,.int .i64 zb],.agg #[.int .i64 yc,.int .i64 yd]] (.tuple #[.agg #[.int .i64 b1,.int .i64 b2],.int .i64 0]))
  (M3:CB 150 #[.agg #[.int .i64 za,.int .i64 zb],.agg #[.int .i64 xc,.int .i64 xd]] (.tuple #[.agg #[.int .i64 c1,.int .i64 c2],.int .i64 0]))
  (M4:CB 150 #[.agg #[.int .i64 xa,.int .i64 xb],.agg #[.int .i64 zc,.int .i64 zd]] (.tuple #[.agg #[.int .i64 d1,.int .i64 d2],.int .i64 0]))
  (M5:CB 150 #[.agg #[.int .i64 xa,.int .i64 xb],.agg #[.int .i64 yc,.int .i64 yd]] (.tuple #[.agg #[.int .i64 e1,.int .i64 e2],.int .i64 0]))
  (M6:CB 150 #[.agg #[.int .i64 ya,.int .i64 yb],.agg #[.int .i64 xc,.int .i64 xd]] (.tuple #[.agg #[.int .i64 f1,.int .i64 f2],.int .i64 0]))
  (D1:CB 224 #[.agg #[.int .i64 a1,.int .i64 a2],.agg #[.int .i64 b1,.int .i64 b2]] (.tuple #[.agg #[.int .i64 pl,.int .i64 ph],.int .i64 0]))
  (D2:CB 224 #[.agg #[.int .i64 c1,.int .i64 c2],.agg #[.int .i64 d1,.int .i64 d2]] (.tuple #[.agg #[.int .i64 ql,.int .i64 qh],.int .i64 0]))
  (D3:CB 224 #[.agg #[.int .i64 e1,.int .i64 e2],.agg #[.int .i64 f1,.int .i64 f2]] (.tuple #[.agg #[.int .i64 rl,.int .i64 rh],.int .i64 0])):
  Calls Tryz.prog 67 #[.pointer (some ⟨B1,0,none⟩),.agg #[.int .i64 xa,.int .i64 xb,.int .i64 ya,.int .i64 yb,.int .i64 za,.int .i64 zb],.agg #[.int .i64 xc,.int .i64 xd,.int .i64 yc,.int .i64 yd,.int .i64 zc,.int .i64 zd]] w fun e w'=>e= .returned (.tuple #[.agg #[.int .i64 pl,.int .i64 ph],.agg #[.int .i64 ql,.int .i64 qh],.agg #[.int .i64 rl,.int .i64 rh]])/\Below w.heap.size w w':=by
 have hB:=C6 ok
 go_enter Tryz.func67,Tryz.ntmps67
 go_upto_region 1 with fail
 (refine m9 ?_;intro w' hb;replace hb:=mU;obtain ⟨hcell,hfroz,hz,z6,z7,z8,z9,_⟩:=oH)
 have hw0:Below w.heap.size w w':=bw
 have hok:=b9 hw0 ok
 have t0:=cq w' w.heap.size 0 (xa)
 have t1:=cq w' w.heap.size 1 (xb)
 have t2:=cq w' w.heap.size 2 (ya)
 have t3:=cq w' w.heap.size 3 (yb)
 have t4:=cq w' w.heap.size 4 (za)
 have t5:=cq w' w.heap.size 5 (zb)
 have u0:=cq w' (w.heap.size+1) 0 (xc)
 have u1:=cq w' (w.heap.size+1) 1 (xd)
 have u2:=cq w' (w.heap.size+1) 2 (yc)
 have u3:=cq w' (w.heap.size+1) 3 (yd)
 have u4:=cq w' (w.heap.size+1) 4 (zc)
 have u5:=cq w' (w.heap.size+1) 5 (zd)
 have p0:=cq w' (w.heap.size+1+1) 0 (0)
 have p1:=cq w' (w.heap.size+1+1) 1 (0)
 have q0:=cq w' (w.heap.size+1+1+1) 0 (0)
 have q1:=cq w' (w.heap.size+1+1+1) 1 (0)
 have r0:=cq w' (w.heap.size+1+1+1+1) 0 (0)
 have r1:=cq w' (w.heap.size+1+1+1+1) 1 (0)
 have pf:∀o,w'.frozen? ⟨w.heap.size+1+1,o,none⟩=false:=by intro o;simp [go_sem, *]
 have qf:∀o,w'.frozen? ⟨w.heap.size+1+1+1,o,none⟩=false:=by intro o;simp [go_sem, *]
 have rf:∀o,w'.frozen? ⟨w.heap.size+1+1+1+1,o,none⟩=false:=by intro o;simp [go_sem, *]
 clear hcell hfroz hz hb ok
 obtain ⟨V0,rfl⟩:=nm w'
 have g4:w.heap.size+1+1+1+1<V0.heap.size:=World.block_lt_of_cell? _ _ r0
 have g3:w.heap.size+1+1+1<V0.heap.size:=by omega
 have g2:w.heap.size+1+1<V0.heap.size:=by omega
 have g1:w.heap.size+1<V0.heap.size:=by omega
 have g0:w.heap.size<V0.heap.size:=by omega
 refine n9 14 (by kernel_rfl) (by kernel_rfl) ?_
 simp only [List.take_succ_cons,List.take_zero,List.drop_succ_cons,List.drop_zero]
 repeat (first|go_big_quiet_step ((first|(go_at_call 64;(with_reducible exact Calls.regrown_of (F7 ya yb zc zd a1 a2 B1 _ (u8 hok) M1)))|(go_at_call 64;(with_reducible exact Calls.regrown_of (F7 za zb yc yd b1 b2 B1 _ (u8 hok) M2)))|(go_at_call 151;(with_reducible exact Calls.regrown_of (eQ a1 a2 b1 b2 pl ph B1 _ (u8 hok) D1)))))|quiet_step ((first|(go_at_call 64;(with_reducible exact Calls.regrown_of (F7 ya yb zc zd a1 a2 B1 _ (u8 hok) M1)))|(go_at_call 64;(with_reducible exact Calls.regrown_of (F7 za zb yc yd b1 b2 B1 _ (u8 hok) M2)))|(go_at_call 151;(with_reducible exact Calls.regrown_of (eQ a1 a2 b1 b2 pl ph B1 _ (u8 hok) D1))))))
 refine wpQuiet_nil ?_;intro w' hw';have hb:=i8 hw';clear hw';replace hb:=mU;obtain ⟨hcell,hfroz,hz,z6,z7,z8,z9,_⟩:=oH
 have hB9:=Nat.lt_of_lt_of_le (C6 hok) hb.size
 obtain ⟨o1,o2⟩:=b9 hb hok
 have nb:B1≠w.heap.size+1+1:=by omega
 have nb':w.heap.size+1+1≠B1:=by omega
 go_upto_region 2 with fail
 (refine m9 ?_;intro w' hb;replace hb:=mU;obtain ⟨hcell,hfroz,hz,z6,z7,z8,z9,_⟩:=oH)
 have hv0:Below w.heap.size w w':=bw
 have hok:I6 w' B1:=⟨by simp [go_sem, *],by simp [go_sem, *]⟩
 clear o1 o2 nb nb' hB9
 have t0:=cq w' w.heap.size 0 (xa)
 have t1:=cq w' w.heap.size 1 (xb)
 have t2:=cq w' w.heap.size 2 (ya)
 have t3:=cq w' w.heap.size 3 (yb)
 have t4:=cq w' w.heap.size 4 (za)
 have t5:=cq w' w.heap.size 5 (zb)
 have u0:=cq w' (w.heap.size+1) 0 (xc)
 have u1:=cq w' (w.heap.size+1) 1 (xd)
 have u2:=cq w' (w.heap.size+1) 2 (yc)
 have u3:=cq w' (w.heap.size+1) 3 (yd)
 have u4:=cq w' (w.heap.size+1) 4 (zc)
 have u5:=cq w' (w.heap.size+1) 5 (zd)
 have p0:=cq w' (w.heap.size+1+1) 0 (pl)
 have p1:=cq w' (w.heap.size+1+1) 1 (ph)
 have q0:=cq w' (w.heap.size+1+1+1) 0 (0)
 have q1:=cq w' (w.heap.size+1+1+1) 1 (0)
 have r0:=cq w' (w.heap.size+1+1+1+1) 0 (0)
 have r1:=cq w' (w.heap.size+1+1+1+1) 1 (0)
 have pf:∀o,w'.frozen? ⟨w.heap.size+1+1,o,none⟩=false:=by intro o;simp [go_sem, *]
 have qf:∀o,w'.frozen? ⟨w.heap.size+1+1+1,o,none⟩=false:=by intro o;simp [go_sem, *]
 have rf:∀o,w'.frozen? ⟨w.heap.size+1+1+1+1,o,none⟩=false:=by intro o;simp [go_sem, *]
 clear hcell hfroz hz hb
 obtain ⟨V1,rfl⟩:=nm w'
 have g4:w.heap.size+1+1+1+1<V1.heap.size:=World.block_lt_of_cell? _ _ r0
 have g3:w.heap.size+1+1+1<V1.heap.size:=by omega
 have g2:w.heap.size+1+1<V1.heap.size:=by omega
 have g1:w.heap.size+1<V1.heap.size:=by omega
 have g0:w.heap.size<V1.heap.size:=by omega
 refine n9 14 (by kernel_rfl) (by kernel_rfl) ?_
 simp only [List.take_succ_cons,List.take_zero,List.drop_succ_cons,List.drop_zero]
 repeat (first|go_big_quiet_step ((first|(go_at_call 64;(with_reducible exact Calls.regrown_of (F7 za zb xc xd c1 c2 B1 _ (u8 hok) M3)))|(go_at_call 64;(with_reducible exact Calls.regrown_of (F7 xa xb zc zd d1 d2 B1 _ (u8 hok) M4)))|(go_at_call 151;(with_reducible exact Calls.regrown_of (eQ c1 c2 d1 d2 ql qh B1 _ (u8 hok) D2)))))|quiet_step ((first|(go_at_call 64;(with_reducible exact Calls.regrown_of (F7 za zb xc xd c1 c2 B1 _ (u8 hok) M3)))|(go_at_call 64;(with_reducible exact Calls.regrown_of (F7 xa xb zc zd d1 d2 B1 _ (u8 hok) M4)))|(go_at_call 151;(with_reducible exact Calls.regrown_of (eQ c1 c2 d1 d2 ql qh B1 _ (u8 hok) D2))))))
 refine wpQuiet_nil ?_;intro w' hw';have hb:=i8 hw';clear hw';replace hb:=mU;obtain ⟨hcell,hfroz,hz,z6,z7,z8,z9,_⟩:=oH
 have hB9:=Nat.lt_of_lt_of_le (C6 hok) hb.size
 obtain ⟨o1,o2⟩:=b9 hb hok
 have nb:B1≠w.heap.size+1+1+1:=by omega
 have nb':w.heap.size+1+1+1≠B1:=by omega
 go_upto_region 3 with fail
 (refine m9 ?_;intro w' hb;replace hb:=mU;obtain ⟨hcell,hfroz,hz,z6,z7,z8,z9,_⟩:=oH)
 have hv1:Below w.heap.size w w':=bw
 have hok:I6 w' B1:=⟨by simp [go_sem, *],by simp [go_sem, *]⟩
 clear o1 o2 nb nb' hB9
 have t0:=cq w' w.heap.size 0 (xa)
 have t1:=cq w' w.heap.size 1 (xb)
 have t2:=cq w' w.heap.size 2 (ya)
 have t3:=cq w' w.heap.size 3 (yb)
 have t4:=cq w' w.heap.size 4 (za)
 have t5:=cq w' w.heap.size 5 (zb)
 have u0:=cq w' (w.heap.size+1) 0 (xc)
 have u1:=cq w' (w.heap.size+1) 1 (xd)
 have u2:=cq w' (w.heap.size+1) 2 (yc)
 have u3:=cq w' (w.heap.size+1) 3 (yd)
 have u4:=cq w' (w.heap.size+1) 4 (zc)
 have u5:=cq w' (w.heap.size+1) 5 (zd)
 have p0:=cq w' (w.heap.size+1+1) 0 (pl)
 have p1:=cq w' (w.heap.size+1+1) 1 (ph)
 have q0:=cq w' (w.heap.size+1+1+1) 0 (ql)
 have q1:=cq w' (w.heap.size+1+1+1) 1 (qh)
 have r0:=cq w' (w.heap.size+1+1+1+1) 0 (0)
 have r1:=cq w' (w.heap.size+1+1+1+1) 1 (0)
 have pf:∀o,w'.frozen? ⟨w.heap.size+1+1,o,none⟩=false:=by intro o;simp [go_sem, *]
 have qf:∀o,w'.frozen? ⟨w.heap.size+1+1+1,o,none⟩=false:=by intro o;simp [go_sem, *]
 have rf:∀o,w'.frozen? ⟨w.heap.size+1+1+1+1,o,none⟩=false:=by intro o;simp [go_sem, *]
 clear hcell hfroz hz hb
 obtain ⟨V2,rfl⟩:=nm w'
 have g4:w.heap.size+1+1+1+1<V2.heap.size:=World.block_lt_of_cell? _ _ r0
 have g3:w.heap.size+1+1+1<V2.heap.size:=by omega
 have g2:w.heap.size+1+1<V2.heap.size:=by omega
 have g1:w.heap.size+1<V2.heap.size:=by omega
 have g0:w.heap.size<V2.heap.size:=by omega
 refine n9 14 (by kernel_rfl) (by kernel_rfl) ?_
 simp only [List.take_succ_cons,List.take_zero,List.drop_succ_cons,List.drop_zero]
 repeat (first|go_big_quiet_step ((first|(go_at_call 64;(with_reducible exact Calls.regrown_of (F7 xa xb yc yd e1 e2 B1 _ (u8 hok) M5)))|(go_at_call 64;(with_reducible exact Calls.regrown_of (F7 ya yb xc xd f1 f2 B1 _ (u8 hok) M6)))|(go_at_call 151;(with_reducible exact Calls.regrown_of (eQ e1 e2 f1 f2 rl rh B1 _ (u8 hok) D3)))))|quiet_step ((first|(go_at_call 64;(with_reducible exact Calls.regrown_of (F7 xa xb yc yd e1 e2 B1 _ (u8 hok) M5)))|(go_at_call 64;(with_reducible exact Calls.regrown_of (F7 ya yb xc xd f1 f2 B1 _ (u8 hok) M6)))|(go_at_call 151;(with_reducible exact Calls.regrown_of (eQ e1 e2 f1 f2 rl rh B1 _ (u8 hok) D3))))))
 refine wpQuiet_nil ?_;intro w' hw';have hb:=i8 hw';clear hw';replace hb:=mU;obtain ⟨hcell,hfroz,hz,z6,z7,z8,z9,_⟩:=oH
 go_wp2
 exact bodyPost_ret (v:= .tuple #[.agg #[.int .i64 pl,.int .i64 ph],.agg #[.int .i64 ql,.int .i64 qh],.agg #[.int .i64 rl,.int .i64 rh]]) (by first|(simp only [results,Tryz.results67];go_simp;done)|simp [results,Tryz.results67,go_sem, *]) rfl ⟨rfl,bw⟩
set_option maxRecDepth 100000 in
set_option maxHeartbeats 8000000 in
theorem NB (xa xb ya yb za zb xc xd yc yd zc zd a1 a2 b1 b2 c1 c2 d1 d2 pl ph:Int) (B1:Nat) (w:World) (ok:I6 w B1)
  (M1:CB 150 #[.agg #[.int .i64 xa,.int .i64 xb],.agg #[.int .i64 xc,.int .i64 xd]] (.tuple #[.agg #[.int .i64 a1,.int .i64 a2],.int .i64 0]))
  (M2:CB 150 #[.agg #[.int .i64 ya,.int .i64 yb],.agg #[.int .i64 yc,.int .i64 yd]] (.tuple #[.agg #[.int .i64 b1,.int .i64 b2],.int .i64 0]))
  (A1:CB 49 #[.agg #[.int .i64 a1,.int .i64 a2],.agg #[.int .i64 b1,.int .i64 b2]] (.tuple #[.agg #[.int .i64 c1,.int .i64 c2],.int .i64 0]))
  (M3:CB 150 #[.agg #[.int .i64 za,.int .i64 zb],.agg #[.int .i64 zc,.int .i64 zd]] (.tuple #[.agg #[.int .i64 d1,.int .i64 d2],.int .i64 0]))
  (A2:CB 49 #[.agg #[.int .i64 c1,.int .i64 c2],.agg #[.int .i64 d1,.int .i64 d2]] (.tuple #[.agg #[.int .i64 pl,.int .i64 ph],.int .i64 0])):
  Calls Tryz.prog 71 #[.pointer (some ⟨B1,0,none⟩),.agg #[.int .i64 xa,.int .i64 xb,.int .i64 ya,.int .i64 yb,.int .i64 za,.int .i64 zb],.agg #[.int .i64 xc,.int .i64 xd,.int .i64 yc,.int .i64 yd,.int .i64 zc,.int .i64 zd]] w fun e w'=>e= .returned (.agg #[.int .i64 pl,.int .i64 ph])/\Below w.heap.size w w':=by
 have hB:=C6 ok
 go_enter Tryz.func71,Tryz.ntmps71
 go_upto_region 1 with fail
 (refine m9 ?_;intro w' hb;replace hb:=mU;obtain ⟨hcell,hfroz,hz,z6,z7,z8,z9,_⟩:=oH)
 have hw0:Below w.heap.size w w':=bw
 have hok:=b9 hw0 ok
 have t0:=cq w' w.heap.size 0 (xa)
 have t1:=cq w' w.heap.size 1 (xb)
 have t2:=cq w' w.heap.size 2 (ya)
 have t3:=cq w' w.heap.size 3 (yb)
 have t4:=cq w' w.heap.size 4 (za)
 have t5:=cq w' w.heap.size 5 (zb)
 have u0:=cq w' (w.heap.size+1) 0 (xc)
 have u1:=cq w' (w.heap.size+1) 1 (xd)
 have u2:=cq w' (w.heap.size+1) 2 (yc)
 have u3:=cq w' (w.heap.size+1) 3 (yd)
 have u4:=cq w' (w.heap.size+1) 4 (zc)
 have u5:=cq w' (w.heap.size+1) 5 (zd)
 have p0:=cq w' (w.heap.size+1+1) 0 (0)
 have p1:=cq w' (w.heap.size+1+1) 1 (0)
 have pf:∀o,w'.frozen? ⟨w.heap.size+1+1,o,none⟩=false:=by intro o;simp [go_sem, *]
 clear hcell hfroz hz hb ok
 obtain ⟨V0,rfl⟩:=nm w'
 have g2:w.heap.size+1+1<V0.heap.size:=World.block_lt_of_cell? _ _ p0
 have g1:w.heap.size+1<V0.heap.size:=by omega
 have g0:w.heap.size<V0.heap.size:=by omega
 refine n9 22 (by kernel_rfl) (by kernel_rfl) ?_
 simp only [List.take_succ_cons,List.take_zero,List.drop_succ_cons,List.drop_zero]
 repeat (first|go_big_quiet_step ((first|(go_at_call 64;(with_reducible exact Calls.regrown_of (F7 xa xb xc xd a1 a2 B1 _ (u8 hok) M1)))|(go_at_call 64;(with_reducible exact Calls.regrown_of (F7 ya yb yc yd b1 b2 B1 _ (u8 hok) M2)))|(go_at_call 69;(with_reducible exact Calls.regrown_of (eH a1 a2 b1 b2 c1 c2 B1 _ (u8 hok) A1)))|(go_at_call 64;(with_reducible exact Calls.regrown_of (F7 za zb zc zd d1 d2 B1 _ (u8 hok) M3)))|(go_at_call 69;(with_reducible exact Calls.regrown_of (eH c1 c2 d1 d2 pl ph B1 _ (u8 hok) A2)))))|quiet_step ((first|(go_at_call 64;(with_reducible exact Calls.regrown_of (F7 xa xb xc xd a1 a2 B1 _ (u8 hok) M1)))|(go_at_call 64;(with_reducible exact Calls.regrown_of (F7 ya yb yc yd b1 b2 B1 _ (u8 hok) M2)))|(go_at_call 69;(with_reducible exact Calls.regrown_of (eH a1 a2 b1 b2 c1 c2 B1 _ (u8 hok) A1)))|(go_at_call 64;(with_reducible exact Calls.regrown_of (F7 za zb zc zd d1 d2 B1 _ (u8 hok) M3)))|(go_at_call 69;(with_reducible exact Calls.regrown_of (eH c1 c2 d1 d2 pl ph B1 _ (u8 hok) A2))))))
 refine wpQuiet_nil ?_;intro w' hw';have hb:=i8 hw';clear hw';replace hb:=mU;obtain ⟨hcell,hfroz,hz,z6,z7,z8,z9,_⟩:=oH
 go_wp2
 exact bodyPost_ret (v:= .agg #[.int .i64 pl,.int .i64 ph]) (by first|(simp only [results,Tryz.results71];go_simp;done)|simp [results,Tryz.results71,go_sem, *]) rfl ⟨rfl,bw⟩
end Go.Proofs.YtdhbeoahpfimbaaGreat
