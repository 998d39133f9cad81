/- Part of the proof of TopDistances. -/
import Derived.Test.YtdhbeoahpfimbaaGreatCs
namespace Go.Proofs.YtdhbeoahpfimbaaGreat
open Go.RowKit
set_option maxRecDepth 100000 in
set_option maxHeartbeats 8000000 in
theorem MA (a b c d e f s1l s1h c1l c1h s2l s2h c2l c2h s3l s3h c3l c3h tl th yl yh ml mh nl nh kl kh xl xh L H:Int) (w:World)
  (S1:CB 125 #[.agg #[.int .i64 a,.int .i64 b]] (.tuple #[.agg #[.int .i64 s1l,.int .i64 s1h],.int .i64 0]))
  (C1:CB 124 #[.agg #[.int .i64 a,.int .i64 b]] (.tuple #[.agg #[.int .i64 c1l,.int .i64 c1h],.int .i64 0]))
  (S2:CB 125 #[.agg #[.int .i64 c,.int .i64 d]] (.tuple #[.agg #[.int .i64 s2l,.int .i64 s2h],.int .i64 0]))
  (C2:CB 124 #[.agg #[.int .i64 c,.int .i64 d]] (.tuple #[.agg #[.int .i64 c2l,.int .i64 c2h],.int .i64 0]))
  (S3:CB 125 #[.agg #[.int .i64 e,.int .i64 f]] (.tuple #[.agg #[.int .i64 s3l,.int .i64 s3h],.int .i64 0]))
  (C3:CB 124 #[.agg #[.int .i64 e,.int .i64 f]] (.tuple #[.agg #[.int .i64 c3l,.int .i64 c3h],.int .i64 0]))
  (M1:CB 150 #[.agg #[.int .i64 c2l,.int .i64 c2h],.agg #[.int .i64 s3l,.int .i64 s3h]] (.tuple #[.agg #[.int .i64 tl,.int .i64 th],.int .i64 0]))
  (NG:CB 274 #[.agg #[.int .i64 tl,.int .i64 th]] (.tuple #[.agg #[.int .i64 yl,.int .i64 yh],.int .i64 0]))
  (M2:CB 150 #[.agg #[.int .i64 s2l,.int .i64 s2h],.agg #[.int .i64 c1l,.int .i64 c1h]] (.tuple #[.agg #[.int .i64 ml,.int .i64 mh],.int .i64 0]))
  (M3:CB 150 #[.agg #[.int .i64 c2l,.int .i64 c2h],.agg #[.int .i64 c3l,.int .i64 c3h]] (.tuple #[.agg #[.int .i64 nl,.int .i64 nh],.int .i64 0]))
  (M4:CB 150 #[.agg #[.int .i64 nl,.int .i64 nh],.agg #[.int .i64 s1l,.int .i64 s1h]] (.tuple #[.agg #[.int .i64 kl,.int .i64 kh],.int .i64 0]))
  (SB:CB 224 #[.agg #[.int .i64 ml,.int .i64 mh],.agg #[.int .i64 kl,.int .i64 kh]] (.tuple #[.agg #[.int .i64 xl,.int .i64 xh],.int .i64 0]))
  (BR:CB 47 #[.agg #[.int .i64 yl,.int .i64 yh],.agg #[.int .i64 xl,.int .i64 xh]] (.tuple #[.agg #[.int .i64 L,.int .i64 H],.int .i64 0])):
  Calls Tryz.prog 155 #[.agg #[.int .i64 a,.int .i64 b,.int .i64 c,.int .i64 d,.int .i64 e,.int .i64 f]] w fun e w'=>e= .returned (.tuple #[.agg #[.int .i64 L,.int .i64 H],.int .i64 0])/\Below w.heap.size w w':=by
 have OF:=b6 fun B1 w ok=>zJ a b c d e f s1l s1h c1l c1h s2l s2h c2l c2h s3l s3h c3l c3h B1 w ok S1 C1 S2 C2 S3 C3
 go_enter Tryz.func155,Tryz.ntmps155
 go_wp2_with fail
 have hok:I6 (((w.alloc (Obj.cells #[.int .i64 a,.int .i64 b,.int .i64 c,.int .i64 d,.int .i64 e,.int .i64 f] 67)).alloc (Obj.cells #[.int .i64 0,.int .i64 0] 23)).alloc (Obj.cells #[.int .i64 0] 235)) (w.heap.size+1+1):=⟨by simp [go_sem],by simp [go_sem]⟩
 refine (OF.out _ _ hok).mono ?_
 rintro e' w' ⟨rfl,hb⟩
 replace hb:=mU;obtain ⟨hcell,hfroz,hz,z6,z7,z8,z9,_⟩:=oH
 have hok:=b9 hb hok
 obtain ⟨w1,rfl⟩:=nm w'
 have hk1:=hok
 have KM:=b6 fun w' (hb:Below w1.heap.size w1 w')=>Z9 c2l c2h s3l s3h tl th (w.heap.size+1+1) w' (b9 hb hk1) M1
 have KN:=b6 fun w' (hb:Below w1.heap.size w1 w')=>LV tl th yl yh (w.heap.size+1+1) w' (b9 hb hk1) NG
 go_upto_region 4 with (first|(go_at_call 202;((with_reducible refine (KM.out _ ?kb).mono ?_);(case kb=>(exact bw;done));rintro e w' ⟨rfl,hb⟩);replace hb:=mU;obtain ⟨hcell,hfroz,hz,z6,z7,z8,z9,_⟩:=oH;obtain ⟨w2,rfl⟩:=nm w')|(go_at_call 226;((with_reducible refine (KN.out _ ?kb).mono ?_);(case kb=>(exact bw;done));rintro e w' ⟨rfl,hb⟩);replace hb:=mU;obtain ⟨hcell,hfroz,hz,z6,z7,z8,z9,_⟩:=oH;obtain ⟨w3,rfl⟩:=nm w'))
 (refine m9 ?_;intro w' hb;replace hb:=mU;obtain ⟨hcell,hfroz,hz,z6,z7,z8,z9,_⟩:=oH)
 have hw1':Below w1.heap.size w1 w':=bw
 have hw0:Below w.heap.size w w':=bw
 have hok:=b9 hw1' hk1
 have p0:=cq w' w1.heap.size 0 (s1l)
 have p1:=cq w' w1.heap.size 1 (s1h)
 have p2:=cq w' w1.heap.size 2 (c1l)
 have p3:=cq w' w1.heap.size 3 (c1h)
 have p4:=cq w' w1.heap.size 4 (s2l)
 have p5:=cq w' w1.heap.size 5 (s2h)
 have p6:=cq w' w1.heap.size 6 (c2l)
 have p7:=cq w' w1.heap.size 7 (c2h)
 have p8:=cq w' w1.heap.size 8 (s3l)
 have p9:=cq w' w1.heap.size 9 (s3h)
 have p10:=cq w' w1.heap.size 10 (c3l)
 have p11:=cq w' w1.heap.size 11 (c3h)
 have fy0:=cq w' w3.heap.size 0 (yl)
 have fy1:=cq w' w3.heap.size 1 (yh)
 have r0:=cq w' (w.heap.size+1) 0 0
 have r1:=cq w' (w.heap.size+1) 1 0
 have rf:∀o,w'.frozen? ⟨w.heap.size+1,o,none⟩=false:=by intro o;simp [go_sem, *]
 have hz1:w.heap.size+1+1<w1.heap.size:=by omega
 have hz3:w1.heap.size<w3.heap.size:=by omega
 clear hcell hfroz hz hb hw1' hk1 KM KN
 obtain ⟨V0,rfl⟩:=nm w'
 have gP:w1.heap.size<V0.heap.size:=World.block_lt_of_cell? _ _ p0
 have gY:w3.heap.size<V0.heap.size:=World.block_lt_of_cell? _ _ fy0
 generalize w1.heap.size=BP at*
 generalize w3.heap.size=BY at*
 have g1:w.heap.size+1<V0.heap.size:=World.block_lt_of_cell? _ _ r0
 refine B8 (fun a0 LL aa vv=>∃(l0 l1 l2 l3 l4 l5 l6 l7 l8 l9 l10 l11 l12 l13 l14 l15 l16 l17 l18 l19:Bool) (EX:Nat),LL= #[l0,l1,l2,l3,l4,l5,l6,l7,l8,l9,l10,l11,l12,l13,l14,l15,l16,l17,l18,l19]/\aa={a0 with tmps:=(((((((((((((((((((a0.tmps.setIfInBounds 21 (cond l0 (.pointer (some ⟨w.heap.size+1+1,0,none⟩)) (undef))).setIfInBounds 22 (cond l1 (.pointer (some ⟨w.heap.size+1+1,0,none⟩)) (undef))).setIfInBounds 23 (cond l2 (.pointer (some ⟨BP,4,none⟩)) (undef))).setIfInBounds 24 (cond l3 (.agg #[.int .i64 s2l,.int .i64 s2h]) (undef))).setIfInBounds 25 (cond l4 (.pointer (some ⟨BP,2,none⟩)) (undef))).setIfInBounds 26 (cond l5 (.agg #[.int .i64 c1l,.int .i64 c1h]) (undef))).setIfInBounds 27 (cond l6 (.agg #[.int .i64 ml,.int .i64 mh]) (undef))).setIfInBounds 28 (cond l7 (.pointer (some ⟨w.heap.size+1+1,0,none⟩)) (undef))).setIfInBounds 29 (cond l8 (.pointer (some ⟨w.heap.size+1+1,0,none⟩)) (undef))).setIfInBounds 30 (cond l9 (.pointer (some ⟨BP,6,none⟩)) (undef))).setIfInBounds 31 (cond l10 (.agg #[.int .i64 c2l,.int .i64 c2h]) (undef))).setIfInBounds 32 (cond l11 (.pointer (some ⟨BP,10,none⟩)) (undef))).setIfInBounds 33 (cond l12 (.agg #[.int .i64 c3l,.int .i64 c3h]) (undef))).setIfInBounds 34 (cond l13 (.agg #[.int .i64 nl,.int .i64 nh]) (undef))).setIfInBounds 35 (cond l14 (.pointer (some ⟨BP,0,none⟩)) (undef))).setIfInBounds 36 (cond l15 (.agg #[.int .i64 s1l,.int .i64 s1h]) (undef))).setIfInBounds 37 (cond l16 (.agg #[.int .i64 kl,.int .i64 kh]) (undef))).setIfInBounds 38 (cond l17 (.agg #[.int .i64 xl,.int .i64 xh]) (undef))).setIfInBounds 7 (cond l18 (.pointer (some ⟨EX,0,none⟩)) (undef)))}/\Below V0.heap.size V0 vv/\(l19=true->l18=true)/\(l18=true->L8 V0 vv EX l19 (xl) (xh))) (by kernel_rfl) (by kernel_rfl) ?h0 ?hsize ?hdone ?hstep
 case h0=>
  refine ⟨false,false,false,false,false,false,false,false,false,false,false,false,false,false,false,false,false,false,false,false,0,rfl,?_,bv,(fun h=>by cases h),(fun h=>by cases h)⟩
  simp only [cond_false,List.setIfInBounds_toArray,List.set_cons_zero,List.set_cons_succ]
 case hsize=>
  intro LL aa vv h
  obtain ⟨l0,l1,l2,l3,l4,l5,l6,l7,l8,l9,l10,l11,l12,l13,l14,l15,l16,l17,l18,l19,EX,hL,_⟩:=h
  rw [hL]
  rfl
 case hstep=>
  intro LL aa vv h
  obtain ⟨l0,l1,l2,l3,l4,l5,l6,l7,l8,l9,l10,l11,l12,l13,l14,l15,l16,l17,l18,l19,EX,hL,ha,hb0,hq18,hr18⟩:=h
  simp only [List.setIfInBounds_toArray,List.set_cons_zero,List.set_cons_succ] at ha
  subst hL
  subst ha
  refine ⟨?s0,?s1,?s2,?s3,?s4,?s5,?s6,?s7,?s8,?s9,?s10,?s11,?s12,?s13,?s14,?s15,?s16,?s17,?s18,?s19,trivial⟩
  case s0=>intro ff gg KK hK;obtain rfl:l0=false:=ff;clear gg;simp only [cond_false];go_simp;exact hK _ _ ⟨_,_,_,_,_,_,_,_,_,_,_,_,_,_,_,_,_,_,_,_,EX,rfl,aq,hb0,hq18,hr18⟩
  case s1=>intro ff gg KK hK;obtain rfl:l1=false:=ff;clear gg;simp only [cond_false];go_simp;exact hK _ _ ⟨_,_,_,_,_,_,_,_,_,_,_,_,_,_,_,_,_,_,_,_,EX,rfl,aq,hb0,hq18,hr18⟩
  case s2=>intro ff gg KK hK;obtain rfl:l2=false:=ff;clear gg;simp only [cond_false];go_simp;exact hK _ _ ⟨_,_,_,_,_,_,_,_,_,_,_,_,_,_,_,_,_,_,_,_,EX,rfl,aq,hb0,hq18,hr18⟩
  case s3=>intro ff gg KK hK;obtain rfl:l2=true:=gg ⟨2,.data⟩ (by simp) rfl;obtain rfl:l3=false:=ff;clear gg;simp only [cond_true,cond_false];have cc0:vv.cell? ⟨BP,4,none⟩=some (.int .i64 s2l):=cell_later hb0 p4;have cc1:vv.cell? ⟨BP,5,none⟩=some (.int .i64 s2h):=cell_later hb0 p5;go_simp;exact hK _ _ ⟨_,_,_,_,_,_,_,_,_,_,_,_,_,_,_,_,_,_,_,_,EX,rfl,aq,hb0,hq18,hr18⟩
  case s4=>intro ff gg KK hK;obtain rfl:l4=false:=ff;clear gg;simp only [cond_false];go_simp;exact hK _ _ ⟨_,_,_,_,_,_,_,_,_,_,_,_,_,_,_,_,_,_,_,_,EX,rfl,aq,hb0,hq18,hr18⟩
  case s5=>intro ff gg KK hK;obtain rfl:l4=true:=gg ⟨4,.data⟩ (by simp) rfl;obtain rfl:l5=false:=ff;clear gg;simp only [cond_true,cond_false];have cc0:vv.cell? ⟨BP,2,none⟩=some (.int .i64 c1l):=cell_later hb0 p2;have cc1:vv.cell? ⟨BP,3,none⟩=some (.int .i64 c1h):=cell_later hb0 p3;go_simp;exact hK _ _ ⟨_,_,_,_,_,_,_,_,_,_,_,_,_,_,_,_,_,_,_,_,EX,rfl,aq,hb0,hq18,hr18⟩
  case s6=>intro ff gg KK hK;obtain rfl:l1=true:=gg ⟨1,.data⟩ (by simp) rfl;obtain rfl:l3=true:=gg ⟨3,.data⟩ (by simp) rfl;obtain rfl:l5=true:=gg ⟨5,.data⟩ (by simp) rfl;obtain rfl:l6=false:=ff;clear gg;simp only [cond_true,cond_false];go_simp;((go_at_call 202;((with_reducible refine am (Z9 s2l s2h c1l c1h ml mh (w.heap.size+1+1) _ (b9 hb0 hok) M2) ?_);intro w' hb)));exact hK _ _ ⟨_,_,_,_,_,_,_,_,_,_,_,_,_,_,_,_,_,_,_,_,EX,rfl,aq,o5 hb hb0,hq18,(fun t=>(hr18 t).later hb)⟩
  case s7=>intro ff gg KK hK;obtain rfl:l7=false:=ff;clear gg;simp only [cond_false];go_simp;exact hK _ _ ⟨_,_,_,_,_,_,_,_,_,_,_,_,_,_,_,_,_,_,_,_,EX,rfl,aq,hb0,hq18,hr18⟩
  case s8=>intro ff gg KK hK;obtain rfl:l8=false:=ff;clear gg;simp only [cond_false];go_simp;exact hK _ _ ⟨_,_,_,_,_,_,_,_,_,_,_,_,_,_,_,_,_,_,_,_,EX,rfl,aq,hb0,hq18,hr18⟩
  case s9=>intro ff gg KK hK;obtain rfl:l9=false:=ff;clear gg;simp only [cond_false];go_simp;exact hK _ _ ⟨_,_,_,_,_,_,_,_,_,_,_,_,_,_,_,_,_,_,_,_,EX,rfl,aq,hb0,hq18,hr18⟩
  case s10=>intro ff gg KK hK;obtain rfl:l9=true:=gg ⟨9,.data⟩ (by simp) rfl;obtain rfl:l10=false:=ff;clear gg;simp only [cond_true,cond_false];have cc0:vv.cell? ⟨BP,6,none⟩=some (.int .i64 c2l):=cell_later hb0 p6;have cc1:vv.cell? ⟨BP,7,none⟩=some (.int .i64 c2h):=cell_later hb0 p7;go_simp;exact hK _ _ ⟨_,_,_,_,_,_,_,_,_,_,_,_,_,_,_,_,_,_,_,_,EX,rfl,aq,hb0,hq18,hr18⟩
  case s11=>intro ff gg KK hK;obtain rfl:l11=false:=ff;clear gg;simp only [cond_false];go_simp;exact hK _ _ ⟨_,_,_,_,_,_,_,_,_,_,_,_,_,_,_,_,_,_,_,_,EX,rfl,aq,hb0,hq18,hr18⟩
  case s12=>intro ff gg KK hK;obtain rfl:l11=true:=gg ⟨11,.data⟩ (by simp) rfl;obtain rfl:l12=false:=ff;clear gg;simp only [cond_true,cond_false];have cc0:vv.cell? ⟨BP,10,none⟩=some (.int .i64 c3l):=cell_later hb0 p10;have cc1:vv.cell? ⟨BP,11,none⟩=some (.int .i64 c3h):=cell_later hb0 p11;go_simp;exact hK _ _ ⟨_,_,_,_,_,_,_,_,_,_,_,_,_,_,_,_,_,_,_,_,EX,rfl,aq,hb0,hq18,hr18⟩
  case s13=>intro ff gg KK hK;obtain rfl:l8=true:=gg ⟨8,.data⟩ (by simp) rfl;obtain rfl:l10=true:=gg ⟨10,.data⟩ (by simp) rfl;obtain rfl:l12=true:=gg ⟨12,.data⟩ (by simp) rfl;obtain rfl:l13=false:=ff;clear gg;simp only [cond_true,cond_false];go_simp;((go_at_call 202;((with_reducible refine am (Z9 c2l c2h c3l c3h nl nh (w.heap.size+1+1) _ (b9 hb0 hok) M3) ?_);intro w' hb)));exact hK _ _ ⟨_,_,_,_,_,_,_,_,_,_,_,_,_,_,_,_,_,_,_,_,EX,rfl,aq,o5 hb hb0,hq18,(fun t=>(hr18 t).later hb)⟩
  case s14=>intro ff gg KK hK;obtain rfl:l14=false:=ff;clear gg;simp only [cond_false];go_simp;exact hK _ _ ⟨_,_,_,_,_,_,_,_,_,_,_,_,_,_,_,_,_,_,_,_,EX,rfl,aq,hb0,hq18,hr18⟩
  case s15=>intro ff gg KK hK;obtain rfl:l14=true:=gg ⟨14,.data⟩ (by simp) rfl;obtain rfl:l15=false:=ff;clear gg;simp only [cond_true,cond_false];have cc0:vv.cell? ⟨BP,0,none⟩=some (.int .i64 s1l):=cell_later hb0 p0;have cc1:vv.cell? ⟨BP,1,none⟩=some (.int .i64 s1h):=cell_later hb0 p1;go_simp;exact hK _ _ ⟨_,_,_,_,_,_,_,_,_,_,_,_,_,_,_,_,_,_,_,_,EX,rfl,aq,hb0,hq18,hr18⟩
  case s16=>intro ff gg KK hK;obtain rfl:l7=true:=gg ⟨7,.data⟩ (by simp) rfl;obtain rfl:l13=true:=gg ⟨13,.data⟩ (by simp) rfl;obtain rfl:l15=true:=gg ⟨15,.data⟩ (by simp) rfl;obtain rfl:l16=false:=ff;clear gg;simp only [cond_true,cond_false];go_simp;((go_at_call 202;((with_reducible refine am (Z9 nl nh s1l s1h kl kh (w.heap.size+1+1) _ (b9 hb0 hok) M4) ?_);intro w' hb)));exact hK _ _ ⟨_,_,_,_,_,_,_,_,_,_,_,_,_,_,_,_,_,_,_,_,EX,rfl,aq,o5 hb hb0,hq18,(fun t=>(hr18 t).later hb)⟩
  case s17=>intro ff gg KK hK;obtain rfl:l0=true:=gg ⟨0,.data⟩ (by simp) rfl;obtain rfl:l6=true:=gg ⟨6,.data⟩ (by simp) rfl;obtain rfl:l16=true:=gg ⟨16,.data⟩ (by simp) rfl;obtain rfl:l17=false:=ff;clear gg;simp only [cond_true,cond_false];go_simp;((go_at_call 227;((with_reducible refine am (LZ ml mh kl kh xl xh (w.heap.size+1+1) _ (b9 hb0 hok) SB) ?_);intro w' hb)));exact hK _ _ ⟨_,_,_,_,_,_,_,_,_,_,_,_,_,_,_,_,_,_,_,_,EX,rfl,aq,o5 hb hb0,hq18,(fun t=>(hr18 t).later hb)⟩
  case s18=>intro ff gg KK hK;obtain rfl:l18=false:=ff;clear gg;simp only [cond_false];go_simp;exact hK _ _ ⟨_,_,_,_,_,_,_,_,_,_,_,_,_,_,_,_,_,_,_,_,vv.heap.size,rfl,aq,bw,(fun _=>rfl),(fun _=>L8.alloc hb0 _ _ _ _ _ _ hq18)⟩
  case s19=>intro ff gg KK hK;obtain rfl:l18=true:=gg ⟨18,.data⟩ (by simp) rfl;obtain rfl:l17=true:=gg ⟨17,.data⟩ (by simp) rfl;obtain rfl:l19=false:=ff;clear gg;simp only [cond_true];obtain ⟨m1,m2,fz0,fz1,y0,y1,cz0,cz1,m7⟩:=hr18 rfl;go_simp;exact hK _ _ ⟨_,_,_,_,_,_,_,_,_,_,_,_,_,_,_,_,_,_,_,_,EX,rfl,aq,((hb0.setCell m1 _).setCell m1 _),(fun _=>rfl),(fun _=>(hr18 rfl).store _ _ _)⟩
 case hdone=>
  intro LL aa vv h hd
  obtain ⟨l0,l1,l2,l3,l4,l5,l6,l7,l8,l9,l10,l11,l12,l13,l14,l15,l16,l17,l18,l19,EX,hL,ha,hb0,hq18,hr18⟩:=h
  rw [hL] at hd
  have t0:l0=true:=hd 0 (by decide)
  have t1:l1=true:=hd 1 (by decide)
  have t2:l2=true:=hd 2 (by decide)
  have t3:l3=true:=hd 3 (by decide)
  have t4:l4=true:=hd 4 (by decide)
  have t5:l5=true:=hd 5 (by decide)
  have t6:l6=true:=hd 6 (by decide)
  have t7:l7=true:=hd 7 (by decide)
  have t8:l8=true:=hd 8 (by decide)
  have t9:l9=true:=hd 9 (by decide)
  have t10:l10=true:=hd 10 (by decide)
  have t11:l11=true:=hd 11 (by decide)
  have t12:l12=true:=hd 12 (by decide)
  have t13:l13=true:=hd 13 (by decide)
  have t14:l14=true:=hd 14 (by decide)
  have t15:l15=true:=hd 15 (by decide)
  have t16:l16=true:=hd 16 (by decide)
  have t17:l17=true:=hd 17 (by decide)
  have t18:l18=true:=hd 18 (by decide)
  have t19:l19=true:=hd 19 (by decide)
  clear hd hL hq18
  subst t0 t1 t2 t3 t4 t5 t6 t7 t8 t9 t10 t11 t12 t13 t14 t15 t16 t17 t18 t19
  simp only [cond_true,List.setIfInBounds_toArray,List.set_cons_zero,List.set_cons_succ] at ha
  subst ha
  obtain ⟨EXg,EXl,EXf0,EXf1,y0,y1,EXc0,EXc1,hy⟩:=hr18 rfl
  obtain ⟨rfl,rfl⟩:=hy rfl
  clear hr18
  have hok:=b9 hb0 hok
  have r0:=cell_later hb0 r0
  have r1:=cell_later hb0 r1
  have fy0:=cell_later hb0 fy0
  have fy1:=cell_later hb0 fy1
  have rf:∀o,vv.frozen? ⟨w.heap.size+1,o,none⟩=false:=fun o=>(hb0.frozen (p:=⟨w.heap.size+1,o,none⟩) g1).trans (rf o)
  have hw1:Below w.heap.size w vv:=Below.trans hw0 (hb0.mono (by omega))
  have g9:=hb0.size
  have g1:w.heap.size+1<vv.heap.size:=by omega
  have gB:=C6 hok
  obtain ⟨ok1,ok2⟩:=hok
  clear hw0 hb0 g9 p0 p1 p2 p3 p4 p5 p6 p7 p8 p9 p10 p11
  go_wp2_with (go_at_call 47;((with_reducible refine am (BR.out _) ?_);intro w' hb);replace hb:=mU;obtain ⟨hcell,hfroz,hz,z6,z7,z8,z9,_⟩:=oH;(try have hB1:B1<w'.heap.size:=by omega);(try have hB3:B1<w'.heap.size+1:=by omega);obtain ⟨w4,rfl⟩:=nm w')
  exact bodyPost_ret (v:= .tuple #[.agg #[.int .i64 L,.int .i64 H],.int .i64 0]) (by first|(simp only [results,Tryz.results155];go_simp;done)|simp [results,Tryz.results155,go_sem, *]) rfl ⟨rfl,bw⟩
theorem a0o (a b c d e f L H:Int) (w:World)
  (V:CB 115 #[.agg #[.int .i64 a,.int .i64 b,.int .i64 c,.int .i64 d,.int .i64 e,.int .i64 f]] (.bool true))
  (A:CB 155 #[.agg #[.int .i64 a,.int .i64 b,.int .i64 c,.int .i64 d,.int .i64 e,.int .i64 f]] (.tuple #[.agg #[.int .i64 L,.int .i64 H],.int .i64 0])):
  Calls Tryz.prog 80 #[.agg #[.int .i64 a,.int .i64 b,.int .i64 c,.int .i64 d,.int .i64 e,.int .i64 f]] w fun e w'=>e= .returned (.tuple #[.agg #[.int .i64 L,.int .i64 H],.int .i64 0])/\Below w.heap.size w w':=by
 go_enter Tryz.func80,Tryz.ntmps80
 go_wp2_with (first|(go_at_call 115;((with_reducible refine am (V.out _) ?_);intro w' hb);replace hb:=mU;obtain ⟨hcell,hfroz,hz,z6,z7,z8,z9,_⟩:=oH;obtain ⟨w1,rfl⟩:=nm w')|(go_at_call 155;((with_reducible refine am (A.out _) ?_);intro w' hb);replace hb:=mU;obtain ⟨hcell,hfroz,hz,z6,z7,z8,z9,_⟩:=oH;obtain ⟨w2,rfl⟩:=nm w'))
 exact bodyPost_ret (v:= .tuple #[.agg #[.int .i64 L,.int .i64 H],.int .i64 0]) (by first|(simp only [results,Tryz.results80];go_simp;done)|simp [results,Tryz.results80,go_sem, *]) rfl ⟨rfl,bw⟩
theorem NZ (a b c d e f L H Y Z:Int) (w:World)
  (A:CB 38 #[.agg #[.int .i64 a,.int .i64 b,.int .i64 c,.int .i64 d,.int .i64 e,.int .i64 f]] (.tuple #[.agg #[.int .i64 L,.int .i64 H],.int .i64 0]))
  (Z1:CB 80 #[.agg #[.int .i64 a,.int .i64 b,.int .i64 c,.int .i64 d,.int .i64 e,.int .i64 f]] (.tuple #[.agg #[.int .i64 Y,.int .i64 Z],.int .i64 0])):
  Calls Tryz.prog 23 #[.agg #[.int .i64 a,.int .i64 b,.int .i64 c,.int .i64 d,.int .i64 e,.int .i64 f]] w fun e w'=>e= .returned (.tuple #[.agg #[.int .i64 L,.int .i64 H,.int .i64 Y,.int .i64 Z],.int .i64 0])/\Below w.heap.size w w':=by
 go_enter Tryz.func23,Tryz.ntmps23
 go_wp2_with (first|(go_at_call 38;((with_reducible refine am (A.out _) ?_);intro w' hb);replace hb:=mU;obtain ⟨hcell,hfroz,hz,z6,z7,z8,z9,_⟩:=oH;obtain ⟨w1,rfl⟩:=nm w')|(go_at_call 80;((with_reducible refine am (Z1.out _) ?_);intro w' hb);replace hb:=mU;obtain ⟨hcell,hfroz,hz,z6,z7,z8,z9,_⟩:=oH;obtain ⟨w2,rfl⟩:=nm w'))
 exact bodyPost_ret (v:= .tuple #[.agg #[.int .i64 L,.int .i64 H,.int .i64 Y,.int .i64 Z],.int .i64 0]) (by first|(simp only [results,Tryz.results23];go_simp;done)|simp [results,Tryz.results23,go_sem, *]) rfl ⟨rfl,bw⟩
end Go.Proofs.YtdhbeoahpfimbaaGreat
