/- Part of the proof of TopDistances. -/
import Derived.Test.YtdhbeoahpfimbaaGreatVcB
namespace Go.Proofs.YtdhbeoahpfimbaaGreat
open Go.RowKit
set_option maxRecDepth 100000 in
set_option maxHeartbeats 8000000 in
theorem sA (xa xb ya yb za zb xc xd yc yd zc zd pl ph ql qh rl rh a1 a2 b1 b2 c1 c2 d1 d2 tl th sl sh dl dh L H:Int) (w:World) (hw:0<=H-L/\H-L<21600000)
  (V1:CB 66 #[.agg #[.int .i64 xa,.int .i64 xb,.int .i64 ya,.int .i64 yb,.int .i64 za,.int .i64 zb]] (.bool true))
  (V2:CB 66 #[.agg #[.int .i64 xc,.int .i64 xd,.int .i64 yc,.int .i64 yd,.int .i64 zc,.int .i64 zd]] (.bool true))
  (CR:Hid (∀B1 w,I6 w B1->Calls Tryz.prog 67 #[.pointer (some ⟨B1,0,none⟩),.agg #[.int .i64 xa,.int .i64 xb,.int .i64 ya,.int .i64 yb,.int .i64 za,.int .i64 zb],.agg #[.int .i64 xc,.int .i64 xd,.int .i64 yc,.int .i64 yd,.int .i64 zc,.int .i64 zd]] w fun e w'=>e= .returned (.tuple #[.agg #[.int .i64 pl,.int .i64 ph],.agg #[.int .i64 ql,.int .i64 qh],.agg #[.int .i64 rl,.int .i64 rh]])/\Below w.heap.size w w'))
  (Q1:CB 48 #[.agg #[.int .i64 pl,.int .i64 ph]] (.tuple #[.agg #[.int .i64 a1,.int .i64 a2],.int .i64 0]))
  (Q2:CB 48 #[.agg #[.int .i64 ql,.int .i64 qh]] (.tuple #[.agg #[.int .i64 b1,.int .i64 b2],.int .i64 0]))
  (A1:CB 49 #[.agg #[.int .i64 a1,.int .i64 a2],.agg #[.int .i64 b1,.int .i64 b2]] (.tuple #[.agg #[.int .i64 c1,.int .i64 c2],.int .i64 0]))
  (Q3:CB 48 #[.agg #[.int .i64 rl,.int .i64 rh]] (.tuple #[.agg #[.int .i64 d1,.int .i64 d2],.int .i64 0]))
  (A2:CB 49 #[.agg #[.int .i64 c1,.int .i64 c2],.agg #[.int .i64 d1,.int .i64 d2]] (.tuple #[.agg #[.int .i64 tl,.int .i64 th],.int .i64 0]))
  (RT:CB 50 #[.agg #[.int .i64 tl,.int .i64 th]] (.tuple #[.agg #[.int .i64 sl,.int .i64 sh],.int .i64 0]))
  (DT:Hid (∀B1 w,I6 w B1->Calls Tryz.prog 71 #[.pointer (some ⟨B1,0,none⟩),.agg #[.int .i64 xa,.int .i64 xb,.int .i64 ya,.int .i64 yb,.int .i64 za,.int .i64 zb],.agg #[.int .i64 xc,.int .i64 xd,.int .i64 yc,.int .i64 yd,.int .i64 zc,.int .i64 zd]] w fun e w'=>e= .returned (.agg #[.int .i64 dl,.int .i64 dh])/\Below w.heap.size w w'))
  (BR:CB 47 #[.agg #[.int .i64 sl,.int .i64 sh],.agg #[.int .i64 dl,.int .i64 dh]] (.tuple #[.agg #[.int .i64 L,.int .i64 H],.int .i64 0])):
  Calls Tryz.prog 20 #[.agg #[.int .i64 xa,.int .i64 xb,.int .i64 ya,.int .i64 yb,.int .i64 za,.int .i64 zb],.agg #[.int .i64 xc,.int .i64 xd,.int .i64 yc,.int .i64 yd,.int .i64 zc,.int .i64 zd]] w fun e w'=>e= .returned (.tuple #[.agg #[.int .i64 L,.int .i64 H],.int .i64 0])/\Below w.heap.size w w':=by
 have HW:(21600000<=H-L)=False:=eq_false (by omega)
 have HR:IntKind.i64.wrap (H-L)=H-L:=by rw [IntKind.wrap_i64];omega
 clear hw
 go_enter Tryz.func20,Tryz.ntmps20
 go_upto_region 4 with (first|(go_at_call 66;((with_reducible refine am (V1.out _) ?_);intro w' hb);replace hb:=mU;obtain ⟨hcell,hfroz,hz,z6,z7,z8,z9,_⟩:=oH;obtain ⟨w1,rfl⟩:=nm w')|(go_at_call 66;((with_reducible refine am (V2.out _) ?_);intro w' hb);replace hb:=mU;obtain ⟨hcell,hfroz,hz,z6,z7,z8,z9,_⟩:=oH;obtain ⟨w2,rfl⟩:=nm w'))
 (refine m9 ?_;intro w' hb;replace hb:=mU;obtain ⟨hcell,hfroz,hz,z6,z7,z8,z9,_⟩:=oH)
 have hok:I6 w' w2.heap.size:=⟨by simp [go_sem, *],by simp [go_sem, *]⟩
 have hw0:Below w.heap.size w w':=bw
 have hz2:w.heap.size+1+1<w2.heap.size:=by omega
 have t0:=cq w' w.heap.size 0 (xa)
 have t1:=cq w' w.heap.size 1 (xb)
 have t2:=cq w' w.heap.size 2 (ya)
 have t3:=cq w' w.heap.size 3 (yb)
 have t4:=cq w' w.heap.size 4 (za)
 have t5:=cq w' w.heap.size 5 (zb)
 have u0:=cq w' (w.heap.size+1) 0 (xc)
 have u1:=cq w' (w.heap.size+1) 1 (xd)
 have u2:=cq w' (w.heap.size+1) 2 (yc)
 have u3:=cq w' (w.heap.size+1) 3 (yd)
 have u4:=cq w' (w.heap.size+1) 4 (zc)
 have u5:=cq w' (w.heap.size+1) 5 (zd)
 have rr0:=cq w' (w.heap.size+1+1) 0 (0)
 have rr1:=cq w' (w.heap.size+1+1) 1 (0)
 have rf:∀o,w'.frozen? ⟨w.heap.size+1+1,o,none⟩=false:=by intro o;simp [go_sem, *]
 clear hcell hfroz hz hb
 obtain ⟨V0,rfl⟩:=nm w'
 obtain ⟨B1,hB1⟩:∃B,w2.heap.size=B:=⟨_,rfl⟩
 rw [hB1] at hok hz2 ⊢
 have g2:w.heap.size+1+1<V0.heap.size:=World.block_lt_of_cell? _ _ rr0
 have g1:w.heap.size+1<V0.heap.size:=by omega
 have g0:w.heap.size<V0.heap.size:=by omega
 have K1:=b6 fun w' (hb:Below V0.heap.size V0 w')=>CR.out B1 w' (b9 hb hok)
 go_upto_region 5 with (go_at_call 67;((with_reducible refine (K1.out _ ?kb).mono ?_);(case kb=>(exact bw;done));rintro e w' ⟨rfl,hb⟩);replace hb:=mU;obtain ⟨hcell,hfroz,hz,z6,z7,z8,z9,_⟩:=oH;obtain ⟨w3,rfl⟩:=nm w')
 (refine m9 ?_;intro w' hb;replace hb:=mU;obtain ⟨hcell,hfroz,hz,z6,z7,z8,z9,_⟩:=oH)
 have hw1:Below V0.heap.size V0 w':=bw
 have hw2:Below w.heap.size w w':=Below.trans hw0 (hw1.mono (by omega))
 have hok:=b9 hw1 hok
 have la0:=cq w' w3.heap.size 0 (pl)
 have la1:=cq w' w3.heap.size 1 (ph)
 have lb0:=cq w' (w3.heap.size+1) 0 (ql)
 have lb1:=cq w' (w3.heap.size+1) 1 (qh)
 have lc0:=cq w' (w3.heap.size+1+1) 0 (rl)
 have lc1:=cq w' (w3.heap.size+1+1) 1 (rh)
 have t0:=cell_later hw1 t0
 have t1:=cell_later hw1 t1
 have t2:=cell_later hw1 t2
 have t3:=cell_later hw1 t3
 have t4:=cell_later hw1 t4
 have t5:=cell_later hw1 t5
 have u0:=cell_later hw1 u0
 have u1:=cell_later hw1 u1
 have u2:=cell_later hw1 u2
 have u3:=cell_later hw1 u3
 have u4:=cell_later hw1 u4
 have u5:=cell_later hw1 u5
 have rr0:=cell_later hw1 rr0
 have rr1:=cell_later hw1 rr1
 have rf:∀o,w'.frozen? ⟨w.heap.size+1+1,o,none⟩=false:=fun o=>(hw1.frozen (p:=⟨w.heap.size+1+1,o,none⟩) g2).trans (rf o)
 clear hcell hfroz hz hb hw0 hw1 g0 g1 g2 K1
 obtain ⟨V1,rfl⟩:=nm w'
 have gl:w3.heap.size+1+1<V1.heap.size:=World.block_lt_of_cell? _ _ lc0
 generalize w3.heap.size=BL at*
 have g2:w.heap.size+1+1<V1.heap.size:=World.block_lt_of_cell? _ _ rr0
 refine B8 (fun a0 LL aa vv=>∃(l0 l1 l2 l3 l4 l5 l6 l7 l8 l9 l10 l11 l12 l13 l14 l15 l16:Bool) (EX:Nat),LL= #[l0,l1,l2,l3,l4,l5,l6,l7,l8,l9,l10,l11,l12,l13,l14,l15,l16]/\aa={a0 with tmps:=((((((((((((((((a0.tmps.setIfInBounds 33 (cond l0 (.pointer (some ⟨B1,0,none⟩)) (undef))).setIfInBounds 34 (cond l1 (.pointer (some ⟨B1,0,none⟩)) (undef))).setIfInBounds 35 (cond l2 (.pointer (some ⟨B1,0,none⟩)) (undef))).setIfInBounds 36 (cond l3 (.pointer (some ⟨B1,0,none⟩)) (undef))).setIfInBounds 37 (cond l4 (.agg #[.int .i64 pl,.int .i64 ph]) (undef))).setIfInBounds 38 (cond l5 (.agg #[.int .i64 a1,.int .i64 a2]) (undef))).setIfInBounds 39 (cond l6 (.pointer (some ⟨B1,0,none⟩)) (undef))).setIfInBounds 40 (cond l7 (.agg #[.int .i64 ql,.int .i64 qh]) (undef))).setIfInBounds 41 (cond l8 (.agg #[.int .i64 b1,.int .i64 b2]) (undef))).setIfInBounds 42 (cond l9 (.agg #[.int .i64 c1,.int .i64 c2]) (undef))).setIfInBounds 43 (cond l10 (.pointer (some ⟨B1,0,none⟩)) (undef))).setIfInBounds 44 (cond l11 (.agg #[.int .i64 rl,.int .i64 rh]) (undef))).setIfInBounds 45 (cond l12 (.agg #[.int .i64 d1,.int .i64 d2]) (undef))).setIfInBounds 46 (cond l13 (.agg #[.int .i64 tl,.int .i64 th]) (undef))).setIfInBounds 47 (cond l14 (.agg #[.int .i64 sl,.int .i64 sh]) (undef))).setIfInBounds 10 (cond l15 (.pointer (some ⟨EX,0,none⟩)) (undef)))}/\Below V1.heap.size V1 vv/\(l16=true->l15=true)/\(l15=true->L8 V1 vv EX l16 (sl) (sh))) (by kernel_rfl) (by kernel_rfl) ?h0 ?hsize ?hdone ?hstep
 case h0=>
  refine ⟨false,false,false,false,false,false,false,false,false,false,false,false,false,false,false,false,false,0,rfl,?_,bv,(fun h=>by cases h),(fun h=>by cases h)⟩
  simp only [cond_false,List.setIfInBounds_toArray,List.set_cons_zero,List.set_cons_succ]
 case hsize=>
  intro LL aa vv h
  obtain ⟨l0,l1,l2,l3,l4,l5,l6,l7,l8,l9,l10,l11,l12,l13,l14,l15,l16,EX,hL,_⟩:=h
  rw [hL]
  rfl
 case hstep=>
  intro LL aa vv h
  obtain ⟨l0,l1,l2,l3,l4,l5,l6,l7,l8,l9,l10,l11,l12,l13,l14,l15,l16,EX,hL,ha,hb0,hq15,hr15⟩:=h
  simp only [List.setIfInBounds_toArray,List.set_cons_zero,List.set_cons_succ] at ha
  subst hL
  subst ha
  refine ⟨?s0,?s1,?s2,?s3,?s4,?s5,?s6,?s7,?s8,?s9,?s10,?s11,?s12,?s13,?s14,?s15,?s16,trivial⟩
  case s0=>intro ff gg KK hK;obtain rfl:l0=false:=ff;clear gg;simp only [cond_false];go_simp;exact hK _ _ ⟨_,_,_,_,_,_,_,_,_,_,_,_,_,_,_,_,_,EX,rfl,aq,hb0,hq15,hr15⟩
  case s1=>intro ff gg KK hK;obtain rfl:l1=false:=ff;clear gg;simp only [cond_false];go_simp;exact hK _ _ ⟨_,_,_,_,_,_,_,_,_,_,_,_,_,_,_,_,_,EX,rfl,aq,hb0,hq15,hr15⟩
  case s2=>intro ff gg KK hK;obtain rfl:l2=false:=ff;clear gg;simp only [cond_false];go_simp;exact hK _ _ ⟨_,_,_,_,_,_,_,_,_,_,_,_,_,_,_,_,_,EX,rfl,aq,hb0,hq15,hr15⟩
  case s3=>intro ff gg KK hK;obtain rfl:l3=false:=ff;clear gg;simp only [cond_false];go_simp;exact hK _ _ ⟨_,_,_,_,_,_,_,_,_,_,_,_,_,_,_,_,_,EX,rfl,aq,hb0,hq15,hr15⟩
  case s4=>intro ff gg KK hK;obtain rfl:l4=false:=ff;clear gg;simp only [cond_false];have cc0:vv.cell? ⟨BL,0,none⟩=some (.int .i64 pl):=cell_later hb0 la0;have cc1:vv.cell? ⟨BL,1,none⟩=some (.int .i64 ph):=cell_later hb0 la1;go_simp;exact hK _ _ ⟨_,_,_,_,_,_,_,_,_,_,_,_,_,_,_,_,_,EX,rfl,aq,hb0,hq15,hr15⟩
  case s5=>intro ff gg KK hK;obtain rfl:l3=true:=gg ⟨3,.data⟩ (by simp) rfl;obtain rfl:l4=true:=gg ⟨4,.data⟩ (by simp) rfl;obtain rfl:l5=false:=ff;clear gg;simp only [cond_true,cond_false];go_simp;((go_at_call 70;((with_reducible refine am (gM pl ph a1 a2 B1 _ (b9 hb0 hok) Q1) ?_);intro w' hb)));exact hK _ _ ⟨_,_,_,_,_,_,_,_,_,_,_,_,_,_,_,_,_,EX,rfl,aq,o5 hb hb0,hq15,(fun t=>(hr15 t).later hb)⟩
  case s6=>intro ff gg KK hK;obtain rfl:l6=false:=ff;clear gg;simp only [cond_false];go_simp;exact hK _ _ ⟨_,_,_,_,_,_,_,_,_,_,_,_,_,_,_,_,_,EX,rfl,aq,hb0,hq15,hr15⟩
  case s7=>intro ff gg KK hK;obtain rfl:l7=false:=ff;clear gg;simp only [cond_false];have cc0:vv.cell? ⟨BL+1,0,none⟩=some (.int .i64 ql):=cell_later hb0 lb0;have cc1:vv.cell? ⟨BL+1,1,none⟩=some (.int .i64 qh):=cell_later hb0 lb1;go_simp;exact hK _ _ ⟨_,_,_,_,_,_,_,_,_,_,_,_,_,_,_,_,_,EX,rfl,aq,hb0,hq15,hr15⟩
  case s8=>intro ff gg KK hK;obtain rfl:l6=true:=gg ⟨6,.data⟩ (by simp) rfl;obtain rfl:l7=true:=gg ⟨7,.data⟩ (by simp) rfl;obtain rfl:l8=false:=ff;clear gg;simp only [cond_true,cond_false];go_simp;((go_at_call 70;((with_reducible refine am (gM ql qh b1 b2 B1 _ (b9 hb0 hok) Q2) ?_);intro w' hb)));exact hK _ _ ⟨_,_,_,_,_,_,_,_,_,_,_,_,_,_,_,_,_,EX,rfl,aq,o5 hb hb0,hq15,(fun t=>(hr15 t).later hb)⟩
  case s9=>intro ff gg KK hK;obtain rfl:l2=true:=gg ⟨2,.data⟩ (by simp) rfl;obtain rfl:l5=true:=gg ⟨5,.data⟩ (by simp) rfl;obtain rfl:l8=true:=gg ⟨8,.data⟩ (by simp) rfl;obtain rfl:l9=false:=ff;clear gg;simp only [cond_true,cond_false];go_simp;((go_at_call 69;((with_reducible refine am (eH a1 a2 b1 b2 c1 c2 B1 _ (b9 hb0 hok) A1) ?_);intro w' hb)));exact hK _ _ ⟨_,_,_,_,_,_,_,_,_,_,_,_,_,_,_,_,_,EX,rfl,aq,o5 hb hb0,hq15,(fun t=>(hr15 t).later hb)⟩
  case s10=>intro ff gg KK hK;obtain rfl:l10=false:=ff;clear gg;simp only [cond_false];go_simp;exact hK _ _ ⟨_,_,_,_,_,_,_,_,_,_,_,_,_,_,_,_,_,EX,rfl,aq,hb0,hq15,hr15⟩
  case s11=>intro ff gg KK hK;obtain rfl:l11=false:=ff;clear gg;simp only [cond_false];have cc0:vv.cell? ⟨BL+1+1,0,none⟩=some (.int .i64 rl):=cell_later hb0 lc0;have cc1:vv.cell? ⟨BL+1+1,1,none⟩=some (.int .i64 rh):=cell_later hb0 lc1;go_simp;exact hK _ _ ⟨_,_,_,_,_,_,_,_,_,_,_,_,_,_,_,_,_,EX,rfl,aq,hb0,hq15,hr15⟩
  case s12=>intro ff gg KK hK;obtain rfl:l10=true:=gg ⟨10,.data⟩ (by simp) rfl;obtain rfl:l11=true:=gg ⟨11,.data⟩ (by simp) rfl;obtain rfl:l12=false:=ff;clear gg;simp only [cond_true,cond_false];go_simp;((go_at_call 70;((with_reducible refine am (gM rl rh d1 d2 B1 _ (b9 hb0 hok) Q3) ?_);intro w' hb)));exact hK _ _ ⟨_,_,_,_,_,_,_,_,_,_,_,_,_,_,_,_,_,EX,rfl,aq,o5 hb hb0,hq15,(fun t=>(hr15 t).later hb)⟩
  case s13=>intro ff gg KK hK;obtain rfl:l1=true:=gg ⟨1,.data⟩ (by simp) rfl;obtain rfl:l9=true:=gg ⟨9,.data⟩ (by simp) rfl;obtain rfl:l12=true:=gg ⟨12,.data⟩ (by simp) rfl;obtain rfl:l13=false:=ff;clear gg;simp only [cond_true,cond_false];go_simp;((go_at_call 69;((with_reducible refine am (eH c1 c2 d1 d2 tl th B1 _ (b9 hb0 hok) A2) ?_);intro w' hb)));exact hK _ _ ⟨_,_,_,_,_,_,_,_,_,_,_,_,_,_,_,_,_,EX,rfl,aq,o5 hb hb0,hq15,(fun t=>(hr15 t).later hb)⟩
  case s14=>intro ff gg KK hK;obtain rfl:l0=true:=gg ⟨0,.data⟩ (by simp) rfl;obtain rfl:l13=true:=gg ⟨13,.data⟩ (by simp) rfl;obtain rfl:l14=false:=ff;clear gg;simp only [cond_true,cond_false];go_simp;((go_at_call 68;((with_reducible refine am (OH tl th sl sh B1 _ (b9 hb0 hok) RT) ?_);intro w' hb)));exact hK _ _ ⟨_,_,_,_,_,_,_,_,_,_,_,_,_,_,_,_,_,EX,rfl,aq,o5 hb hb0,hq15,(fun t=>(hr15 t).later hb)⟩
  case s15=>intro ff gg KK hK;obtain rfl:l15=false:=ff;clear gg;simp only [cond_false];go_simp;exact hK _ _ ⟨_,_,_,_,_,_,_,_,_,_,_,_,_,_,_,_,_,vv.heap.size,rfl,aq,bw,(fun _=>rfl),(fun _=>L8.alloc hb0 _ _ _ _ _ _ hq15)⟩
  case s16=>intro ff gg KK hK;obtain rfl:l15=true:=gg ⟨15,.data⟩ (by simp) rfl;obtain rfl:l14=true:=gg ⟨14,.data⟩ (by simp) rfl;obtain rfl:l16=false:=ff;clear gg;simp only [cond_true];obtain ⟨m1,m2,fz0,fz1,y0,y1,cz0,cz1,m7⟩:=hr15 rfl;go_simp;exact hK _ _ ⟨_,_,_,_,_,_,_,_,_,_,_,_,_,_,_,_,_,EX,rfl,aq,((hb0.setCell m1 _).setCell m1 _),(fun _=>rfl),(fun _=>(hr15 rfl).store _ _ _)⟩
 case hdone=>
  intro LL aa vv h hd
  obtain ⟨l0,l1,l2,l3,l4,l5,l6,l7,l8,l9,l10,l11,l12,l13,l14,l15,l16,EX,hL,ha,hb0,hq15,hr15⟩:=h
  rw [hL] at hd
  have t0:l0=true:=hd 0 (by decide)
  have t1:l1=true:=hd 1 (by decide)
  have t2:l2=true:=hd 2 (by decide)
  have t3:l3=true:=hd 3 (by decide)
  have t4:l4=true:=hd 4 (by decide)
  have t5:l5=true:=hd 5 (by decide)
  have t6:l6=true:=hd 6 (by decide)
  have t7:l7=true:=hd 7 (by decide)
  have t8:l8=true:=hd 8 (by decide)
  have t9:l9=true:=hd 9 (by decide)
  have t10:l10=true:=hd 10 (by decide)
  have t11:l11=true:=hd 11 (by decide)
  have t12:l12=true:=hd 12 (by decide)
  have t13:l13=true:=hd 13 (by decide)
  have t14:l14=true:=hd 14 (by decide)
  have t15:l15=true:=hd 15 (by decide)
  have t16:l16=true:=hd 16 (by decide)
  clear hd hL hq15
  subst t0 t1 t2 t3 t4 t5 t6 t7 t8 t9 t10 t11 t12 t13 t14 t15 t16
  simp only [cond_true,List.setIfInBounds_toArray,List.set_cons_zero,List.set_cons_succ] at ha
  subst ha
  obtain ⟨EXg,EXl,EXf0,EXf1,y0,y1,EXc0,EXc1,hy⟩:=hr15 rfl
  obtain ⟨rfl,rfl⟩:=hy rfl
  clear hr15
  have hok:=b9 hb0 hok
  have t0:=cell_later hb0 t0
  have t1:=cell_later hb0 t1
  have t2:=cell_later hb0 t2
  have t3:=cell_later hb0 t3
  have t4:=cell_later hb0 t4
  have t5:=cell_later hb0 t5
  have u0:=cell_later hb0 u0
  have u1:=cell_later hb0 u1
  have u2:=cell_later hb0 u2
  have u3:=cell_later hb0 u3
  have u4:=cell_later hb0 u4
  have u5:=cell_later hb0 u5
  have rr0:=cell_later hb0 rr0
  have rr1:=cell_later hb0 rr1
  have rf:∀o,vv.frozen? ⟨w.heap.size+1+1,o,none⟩=false:=fun o=>(hb0.frozen (p:=⟨w.heap.size+1+1,o,none⟩) g2).trans (rf o)
  have hw3:Below w.heap.size w vv:=Below.trans hw2 (hb0.mono (by omega))
  have g9:=hb0.size
  have g2:w.heap.size+1+1<vv.heap.size:=by omega
  have g1:w.heap.size+1<vv.heap.size:=by omega
  have g0:w.heap.size<vv.heap.size:=by omega
  have gB:=C6 hok
  have K2:=b6 fun w' (hb:Below vv.heap.size vv w')=>DT.out B1 w' (b9 hb hok)
  obtain ⟨ok1,ok2⟩:=hok
  clear hw2 hb0 g9 gl la0 la1 lb0 lb1 lc0 lc1
  go_wp2_with (first|(go_at_call 71;((with_reducible refine (K2.out _ ?kb).mono ?_);(case kb=>(exact bw;done));rintro e w' ⟨rfl,hb⟩);replace hb:=mU;obtain ⟨hcell,hfroz,hz,z6,z7,z8,z9,_⟩:=oH;(try have bW:B1<w'.heap.size:=by omega);(try have bX:EX<w'.heap.size:=by omega);obtain ⟨w5,rfl⟩:=nm w')|(go_at_call 47;((with_reducible refine am (BR.out _) ?_);intro w' hb);replace hb:=mU;obtain ⟨hcell,hfroz,hz,z6,z7,z8,z9,_⟩:=oH;(try have bW:B1<w'.heap.size:=by omega);obtain ⟨w6,rfl⟩:=nm w'))
  exact bodyPost_ret (v:= .tuple #[.agg #[.int .i64 L,.int .i64 H],.int .i64 0]) (by first|(simp only [results,Tryz.results20];go_simp;done)|simp [results,Tryz.results20,go_sem, *]) rfl ⟨rfl,bw⟩
end Go.Proofs.YtdhbeoahpfimbaaGreat
