/- Part of the proof of TopDistances. -/
import Derived.Test.YtdhbeoahpfimbaaGreatGr
namespace Go.Proofs.YtdhbeoahpfimbaaGreat
open Go.RowKit
theorem lV (a b:Int) (B1:Nat) (w:World) (h:I6 w B1):
  Calls Tryz.prog 73 #[.pointer (some ⟨B1,0,none⟩),.agg #[.int .i64 a,.int .i64 b],.int .i64 0] w fun e w'=>e= .returned (.agg #[.int .i64 a,.int .i64 b])/\Below w.heap.size w w':=by
 have hB:=C6 h
 have h4:B1<w.heap.size+1:=(by omega)
 have h5:B1<w.heap.size+1+1:=(by omega)
 obtain ⟨h1,h2⟩:=h
 have hs:((w.alloc (Obj.cells #[.int .i64 a,.int .i64 b] 52)).alloc (Obj.cells #[.int .i64 0,.int .i64 0] 52)).setCell ⟨B1,0,none⟩ (.int .i64 0)=(w.alloc (Obj.cells #[.int .i64 a,.int .i64 b] 52)).alloc (Obj.cells #[.int .i64 0,.int .i64 0] 52):=D9 (by simp [go_sem, *])
 go_enter Tryz.func73,Tryz.ntmps73
 go_wp2
 exact bodyPost_ret (v:= .agg #[.int .i64 a,.int .i64 b]) (by first|(simp only [results,Tryz.results73];go_simp;done)|simp [results,Tryz.results73,go_sem, *]) rfl ⟨rfl,bw⟩
theorem wW (a b:Int) (B1:Nat) (w:World) (h:I6 w B1):
  Calls Tryz.prog 78 #[.pointer (some ⟨B1,0,none⟩),.agg #[.int .i64 a,.int .i64 b],.int .i64 0] w fun e w'=>e= .returned (.agg #[.int .i64 a,.int .i64 b])/\Below w.heap.size w w':=by
 have hB:=C6 h
 have h4:B1<w.heap.size+1:=(by omega)
 have h5:B1<w.heap.size+1+1:=(by omega)
 obtain ⟨h1,h2⟩:=h
 have hs:((w.alloc (Obj.cells #[.int .i64 a,.int .i64 b] 23)).alloc (Obj.cells #[.int .i64 0,.int .i64 0] 23)).setCell ⟨B1,0,none⟩ (.int .i64 0)=(w.alloc (Obj.cells #[.int .i64 a,.int .i64 b] 23)).alloc (Obj.cells #[.int .i64 0,.int .i64 0] 23):=D9 (by simp [go_sem, *])
 go_enter Tryz.func78,Tryz.ntmps78
 go_wp2
 exact bodyPost_ret (v:= .agg #[.int .i64 a,.int .i64 b]) (by first|(simp only [results,Tryz.results78];go_simp;done)|simp [results,Tryz.results78,go_sem, *]) rfl ⟨rfl,bw⟩
theorem zG (a b x y:Int) (B1:Nat) (w:World) (h:I6 w B1)
  (S:CB 125 #[.agg #[.int .i64 a,.int .i64 b]] (.tuple #[.agg #[.int .i64 x,.int .i64 y],.int .i64 0])):
  Calls Tryz.prog 77 #[.pointer (some ⟨B1,0,none⟩),.agg #[.int .i64 a,.int .i64 b]] w fun e w'=>e= .returned (.agg #[.int .i64 x,.int .i64 y])/\Below w.heap.size w w':=by
 have hB:=C6 h
 have K:=b6 fun w' (hb:Below w.heap.size w w')=>lV x y B1 w' (b9 hb h)
 go_enter Tryz.func77,Tryz.ntmps77
 go_wp2_with (first|(go_at_call 125;((with_reducible refine am (S.out _) ?_);intro w' hb);replace hb:=mU;obtain ⟨hcell,hfroz,hz,z6,z7,z8,z9,_⟩:=oH;(try have hB1:B1<w'.heap.size:=by omega);(try have hB3:B1<w'.heap.size+1:=by omega);obtain ⟨w1,rfl⟩:=nm w')|(go_at_call 73;((with_reducible refine (K.out _ ?kb).mono ?_);(case kb=>(exact bw;done));rintro e w' ⟨rfl,hb⟩);replace hb:=mU;obtain ⟨hcell,hfroz,hz,z6,z7,z8,z9,_⟩:=oH;(try have hB1:B1<w'.heap.size:=by omega);(try have hB3:B1<w'.heap.size+1:=by omega);obtain ⟨w2,rfl⟩:=nm w'))
 exact bodyPost_ret (v:= .agg #[.int .i64 x,.int .i64 y]) (by first|(simp only [results,Tryz.results77];go_simp;done)|simp [results,Tryz.results77,go_sem, *]) rfl ⟨rfl,bw⟩
theorem xO (a b x y:Int) (B1:Nat) (w:World) (h:I6 w B1)
  (S:CB 147 #[.agg #[.int .i64 a,.int .i64 b]] (.tuple #[.agg #[.int .i64 x,.int .i64 y],.int .i64 0])):
  Calls Tryz.prog 74 #[.pointer (some ⟨B1,0,none⟩),.agg #[.int .i64 a,.int .i64 b]] w fun e w'=>e= .returned (.agg #[.int .i64 x,.int .i64 y])/\Below w.heap.size w w':=by
 have hB:=C6 h
 have K:=b6 fun w' (hb:Below w.heap.size w w')=>lV x y B1 w' (b9 hb h)
 go_enter Tryz.func74,Tryz.ntmps74
 go_wp2_with (first|(go_at_call 147;((with_reducible refine am (S.out _) ?_);intro w' hb);replace hb:=mU;obtain ⟨hcell,hfroz,hz,z6,z7,z8,z9,_⟩:=oH;(try have hB1:B1<w'.heap.size:=by omega);(try have hB3:B1<w'.heap.size+1:=by omega);obtain ⟨w1,rfl⟩:=nm w')|(go_at_call 73;((with_reducible refine (K.out _ ?kb).mono ?_);(case kb=>(exact bw;done));rintro e w' ⟨rfl,hb⟩);replace hb:=mU;obtain ⟨hcell,hfroz,hz,z6,z7,z8,z9,_⟩:=oH;(try have hB1:B1<w'.heap.size:=by omega);(try have hB3:B1<w'.heap.size+1:=by omega);obtain ⟨w2,rfl⟩:=nm w'))
 exact bodyPost_ret (v:= .agg #[.int .i64 x,.int .i64 y]) (by first|(simp only [results,Tryz.results74];go_simp;done)|simp [results,Tryz.results74,go_sem, *]) rfl ⟨rfl,bw⟩
theorem BO (a b c d x y:Int) (B1:Nat) (w:World) (h:I6 w B1)
  (S:CB 150 #[.agg #[.int .i64 a,.int .i64 b],.agg #[.int .i64 c,.int .i64 d]] (.tuple #[.agg #[.int .i64 x,.int .i64 y],.int .i64 0])):
  Calls Tryz.prog 76 #[.pointer (some ⟨B1,0,none⟩),.agg #[.int .i64 a,.int .i64 b],.agg #[.int .i64 c,.int .i64 d]] w fun e w'=>e= .returned (.agg #[.int .i64 x,.int .i64 y])/\Below w.heap.size w w':=by
 have hB:=C6 h
 have K:=b6 fun w' (hb:Below w.heap.size w w')=>lV x y B1 w' (b9 hb h)
 go_enter Tryz.func76,Tryz.ntmps76
 go_wp2_with (first|(go_at_call 150;((with_reducible refine am (S.out _) ?_);intro w' hb);replace hb:=mU;obtain ⟨hcell,hfroz,hz,z6,z7,z8,z9,_⟩:=oH;(try have hB1:B1<w'.heap.size:=by omega);(try have hB3:B1<w'.heap.size+1:=by omega);obtain ⟨w1,rfl⟩:=nm w')|(go_at_call 73;((with_reducible refine (K.out _ ?kb).mono ?_);(case kb=>(exact bw;done));rintro e w' ⟨rfl,hb⟩);replace hb:=mU;obtain ⟨hcell,hfroz,hz,z6,z7,z8,z9,_⟩:=oH;(try have hB1:B1<w'.heap.size:=by omega);(try have hB3:B1<w'.heap.size+1:=by omega);obtain ⟨w2,rfl⟩:=nm w'))
 exact bodyPost_ret (v:= .agg #[.int .i64 x,.int .i64 y]) (by first|(simp only [results,Tryz.results76];go_simp;done)|simp [results,Tryz.results76,go_sem, *]) rfl ⟨rfl,bw⟩
theorem EA (a b c d x y:Int) (B1:Nat) (w:World) (h:I6 w B1)
  (S:CB 152 #[.agg #[.int .i64 a,.int .i64 b],.agg #[.int .i64 c,.int .i64 d]] (.tuple #[.agg #[.int .i64 x,.int .i64 y],.int .i64 0])):
  Calls Tryz.prog 75 #[.pointer (some ⟨B1,0,none⟩),.agg #[.int .i64 a,.int .i64 b],.agg #[.int .i64 c,.int .i64 d]] w fun e w'=>e= .returned (.agg #[.int .i64 x,.int .i64 y])/\Below w.heap.size w w':=by
 have hB:=C6 h
 have K:=b6 fun w' (hb:Below w.heap.size w w')=>wW x y B1 w' (b9 hb h)
 go_enter Tryz.func75,Tryz.ntmps75
 go_wp2_with (first|(go_at_call 152;((with_reducible refine am (S.out _) ?_);intro w' hb);replace hb:=mU;obtain ⟨hcell,hfroz,hz,z6,z7,z8,z9,_⟩:=oH;(try have hB1:B1<w'.heap.size:=by omega);(try have hB3:B1<w'.heap.size+1:=by omega);obtain ⟨w1,rfl⟩:=nm w')|(go_at_call 78;((with_reducible refine (K.out _ ?kb).mono ?_);(case kb=>(exact bw;done));rintro e w' ⟨rfl,hb⟩);replace hb:=mU;obtain ⟨hcell,hfroz,hz,z6,z7,z8,z9,_⟩:=oH;(try have hB1:B1<w'.heap.size:=by omega);(try have hB3:B1<w'.heap.size+1:=by omega);obtain ⟨w2,rfl⟩:=nm w'))
 exact bodyPost_ret (v:= .agg #[.int .i64 x,.int .i64 y]) (by first|(simp only [results,Tryz.results75];go_simp;done)|simp [results,Tryz.results75,go_sem, *]) rfl ⟨rfl,bw⟩
theorem xF (a b:Int) (w:World) (h0:a<=b) (h1:0<=a) (h2:b<=10800000):
  Calls Tryz.prog 72 #[.agg #[.int .i64 a,.int .i64 b]] w fun e w'=>e= .returned (.bool true)/\Below w.heap.size w w':=by
 have V:=b6 fun w=>(by have:=G7 a b w;rw [G8 (by omega)] at this;exact this:Calls Tryz.prog 45 #[.agg #[.int .i64 a,.int .i64 b]] w fun e w'=>e= .returned (.bool true)/\Below w.heap.size w w')
 go_enter Tryz.func72,Tryz.ntmps72
 go_wp2_with (go_at_call 45;((with_reducible refine am (V.out _) ?_);intro w' hb);replace hb:=mU;obtain ⟨hcell,hfroz,hz,z6,z7,z8,z9,_⟩:=oH;obtain ⟨w1,rfl⟩:=nm w')
 go_ret
 exact ⟨rfl,bw⟩
set_option maxRecDepth 100000 in
set_option maxHeartbeats 8000000 in
theorem DO (a b c d e f dl dh hl hh sl sh tl th ml mh gl gh nl nh xl xh L H:Int) (w:World)
  (V1:CB 72 #[.agg #[.int .i64 a,.int .i64 b]] (.bool true))
  (V2:CB 72 #[.agg #[.int .i64 c,.int .i64 d]] (.bool true))
  (V3:CB 45 #[.agg #[.int .i64 e,.int .i64 f]] (.bool true))
  (MI:CB 152 #[.agg #[.int .i64 a,.int .i64 b],.agg #[.int .i64 c,.int .i64 d]] (.tuple #[.agg #[.int .i64 dl,.int .i64 dh],.int .i64 0]))
  (HV:CB 147 #[.agg #[.int .i64 dl,.int .i64 dh]] (.tuple #[.agg #[.int .i64 hl,.int .i64 hh],.int .i64 0]))
  (S1:CB 125 #[.agg #[.int .i64 a,.int .i64 b]] (.tuple #[.agg #[.int .i64 sl,.int .i64 sh],.int .i64 0]))
  (S2:CB 125 #[.agg #[.int .i64 c,.int .i64 d]] (.tuple #[.agg #[.int .i64 tl,.int .i64 th],.int .i64 0]))
  (M1:CB 150 #[.agg #[.int .i64 sl,.int .i64 sh],.agg #[.int .i64 tl,.int .i64 th]] (.tuple #[.agg #[.int .i64 ml,.int .i64 mh],.int .i64 0]))
  (H2:CB 147 #[.agg #[.int .i64 e,.int .i64 f]] (.tuple #[.agg #[.int .i64 gl,.int .i64 gh],.int .i64 0]))
  (M2:CB 150 #[.agg #[.int .i64 ml,.int .i64 mh],.agg #[.int .i64 gl,.int .i64 gh]] (.tuple #[.agg #[.int .i64 nl,.int .i64 nh],.int .i64 0]))
  (AD:CB 49 #[.agg #[.int .i64 hl,.int .i64 hh],.agg #[.int .i64 nl,.int .i64 nh]] (.tuple #[.agg #[.int .i64 xl,.int .i64 xh],.int .i64 0]))
  (AH:CB 79 #[.agg #[.int .i64 xl,.int .i64 xh]] (.tuple #[.agg #[.int .i64 L,.int .i64 H],.int .i64 0])):
  Calls Tryz.prog 22 #[.agg #[.int .i64 a,.int .i64 b],.agg #[.int .i64 c,.int .i64 d],.agg #[.int .i64 e,.int .i64 f]] w fun e w'=>e= .returned (.tuple #[.agg #[.int .i64 L,.int .i64 H],.int .i64 0])/\Below w.heap.size w w':=by
 go_enter Tryz.func22,Tryz.ntmps22
 go_upto_region 4 with (first|(go_at_call 72;((with_reducible refine am (V1.out _) ?_);intro w' hb);replace hb:=mU;obtain ⟨hcell,hfroz,hz,z6,z7,z8,z9,_⟩:=oH;obtain ⟨w1,rfl⟩:=nm w')|(go_at_call 72;((with_reducible refine am (V2.out _) ?_);intro w' hb);replace hb:=mU;obtain ⟨hcell,hfroz,hz,z6,z7,z8,z9,_⟩:=oH;obtain ⟨w2,rfl⟩:=nm w')|(go_at_call 45;((with_reducible refine am (V3.out _) ?_);intro w' hb);replace hb:=mU;obtain ⟨hcell,hfroz,hz,z6,z7,z8,z9,_⟩:=oH;obtain ⟨w3,rfl⟩:=nm w'))
 (refine m9 ?_;intro w' hb;replace hb:=mU;obtain ⟨hcell,hfroz,hz,z6,z7,z8,z9,_⟩:=oH)
 have hw0:Below w.heap.size w w':=bw
 have hd1:w.heap.size<w3.heap.size:=by omega
 have hd2:w.heap.size+1<w3.heap.size:=by omega
 have hd3:w.heap.size+1+1<w3.heap.size:=by omega
 have hd4:w.heap.size+1+1+1<w3.heap.size:=by omega
 have hok:I6 w' w3.heap.size:=⟨by simp [go_sem, *],by simp [go_sem, *]⟩
 have a0:=cq w' w.heap.size 0 (a)
 have a1:=cq w' w.heap.size 1 (b)
 have b0:=cq w' (w.heap.size+1) 0 (c)
 have b1:=cq w' (w.heap.size+1) 1 (d)
 have c0:=cq w' (w.heap.size+1+1) 0 (e)
 have c1:=cq w' (w.heap.size+1+1) 1 (f)
 have r0:=cq w' (w.heap.size+1+1+1) 0 (0)
 have r1:=cq w' (w.heap.size+1+1+1) 1 (0)
 have rf:∀o,w'.frozen? ⟨w.heap.size+1+1+1,o,none⟩=false:=by intro o;simp [go_sem, *]
 clear hcell hfroz hz hb
 obtain ⟨V0,rfl⟩:=nm w'
 generalize w3.heap.size=BW at*
 have g1:w.heap.size+1+1+1<V0.heap.size:=World.block_lt_of_cell? _ _ r0
 refine B8 (fun a0 LL aa vv=>∃(l0 l1 l2 l3 l4 l5 l6 l7 l8 l9 l10 l11 l12 l13 l14 l15 l16 l17 l18 l19 l20 l21 l22 l23 l24 l25:Bool) (EX:Nat),LL= #[l0,l1,l2,l3,l4,l5,l6,l7,l8,l9,l10,l11,l12,l13,l14,l15,l16,l17,l18,l19,l20,l21,l22,l23,l24,l25]/\aa={a0 with tmps:=(((((((((((((((((((((((((a0.tmps.setIfInBounds 27 (cond l0 (.pointer (some ⟨BW,0,none⟩)) (undef))).setIfInBounds 28 (cond l1 (.pointer (some ⟨BW,0,none⟩)) (undef))).setIfInBounds 29 (cond l2 (.pointer (some ⟨BW,0,none⟩)) (undef))).setIfInBounds 30 (cond l3 (.agg #[.int .i64 a,.int .i64 b]) (undef))).setIfInBounds 31 (cond l4 (.agg #[.int .i64 c,.int .i64 d]) (undef))).setIfInBounds 32 (cond l5 (.agg #[.int .i64 dl,.int .i64 dh]) (undef))).setIfInBounds 33 (cond l6 (.agg #[.int .i64 hl,.int .i64 hh]) (undef))).setIfInBounds 34 (cond l7 (.pointer (some ⟨BW,0,none⟩)) (undef))).setIfInBounds 35 (cond l8 (.pointer (some ⟨BW,0,none⟩)) (undef))).setIfInBounds 36 (cond l9 (.pointer (some ⟨BW,0,none⟩)) (undef))).setIfInBounds 37 (cond l10 (.agg #[.int .i64 a,.int .i64 b]) (undef))).setIfInBounds 38 (cond l11 (.agg #[.int .i64 sl,.int .i64 sh]) (undef))).setIfInBounds 39 (cond l12 (.pointer (some ⟨BW,0,none⟩)) (undef))).setIfInBounds 40 (cond l13 (.agg #[.int .i64 c,.int .i64 d]) (undef))).setIfInBounds 41 (cond l14 (.agg #[.int .i64 tl,.int .i64 th]) (undef))).setIfInBounds 42 (cond l15 (.agg #[.int .i64 ml,.int .i64 mh]) (undef))).setIfInBounds 43 (cond l16 (.pointer (some ⟨BW,0,none⟩)) (undef))).setIfInBounds 44 (cond l17 (.agg #[.int .i64 e,.int .i64 f]) (undef))).setIfInBounds 45 (cond l18 (.agg #[.int .i64 gl,.int .i64 gh]) (undef))).setIfInBounds 46 (cond l19 (.agg #[.int .i64 nl,.int .i64 nh]) (undef))).setIfInBounds 47 (cond l20 (.tuple #[.agg #[.int .i64 xl,.int .i64 xh],.int .i64 0]) (undef))).setIfInBounds 48 (cond l21 (.agg #[.int .i64 xl,.int .i64 xh]) (undef))).setIfInBounds 49 (cond l22 (.int .i64 0) (undef))).setIfInBounds 50 (cond l23 (.agg #[.int .i64 xl,.int .i64 xh]) (undef))).setIfInBounds 9 (cond l24 (.pointer (some ⟨EX,0,none⟩)) (undef)))}/\Below V0.heap.size V0 vv/\(l25=true->l24=true)/\(l24=true->L8 V0 vv EX l25 (xl) (xh))) (by kernel_rfl) (by kernel_rfl) ?h0 ?hsize ?hdone ?hstep
 case h0=>
  refine ⟨false,false,false,false,false,false,false,false,false,false,false,false,false,false,false,false,false,false,false,false,false,false,false,false,false,false,0,rfl,?_,bv,(fun h=>by cases h),(fun h=>by cases h)⟩
  simp only [cond_false,List.setIfInBounds_toArray,List.set_cons_zero,List.set_cons_succ]
 case hsize=>
  intro LL aa vv h
  obtain ⟨l0,l1,l2,l3,l4,l5,l6,l7,l8,l9,l10,l11,l12,l13,l14,l15,l16,l17,l18,l19,l20,l21,l22,l23,l24,l25,EX,hL,_⟩:=h
  rw [hL]
  rfl
 case hstep=>
  intro LL aa vv h
  obtain ⟨l0,l1,l2,l3,l4,l5,l6,l7,l8,l9,l10,l11,l12,l13,l14,l15,l16,l17,l18,l19,l20,l21,l22,l23,l24,l25,EX,hL,ha,hb0,hq24,hr24⟩:=h
  simp only [List.setIfInBounds_toArray,List.set_cons_zero,List.set_cons_succ] at ha
  subst hL
  subst ha
  refine ⟨?s0,?s1,?s2,?s3,?s4,?s5,?s6,?s7,?s8,?s9,?s10,?s11,?s12,?s13,?s14,?s15,?s16,?s17,?s18,?s19,?s20,?s21,?s22,?s23,?s24,?s25,trivial⟩
  case s0=>intro ff gg KK hK;obtain rfl:l0=false:=ff;clear gg;simp only [cond_false];go_simp;exact hK _ _ ⟨_,_,_,_,_,_,_,_,_,_,_,_,_,_,_,_,_,_,_,_,_,_,_,_,_,_,EX,rfl,aq,hb0,hq24,hr24⟩
  case s1=>intro ff gg KK hK;obtain rfl:l1=false:=ff;clear gg;simp only [cond_false];go_simp;exact hK _ _ ⟨_,_,_,_,_,_,_,_,_,_,_,_,_,_,_,_,_,_,_,_,_,_,_,_,_,_,EX,rfl,aq,hb0,hq24,hr24⟩
  case s2=>intro ff gg KK hK;obtain rfl:l2=false:=ff;clear gg;simp only [cond_false];go_simp;exact hK _ _ ⟨_,_,_,_,_,_,_,_,_,_,_,_,_,_,_,_,_,_,_,_,_,_,_,_,_,_,EX,rfl,aq,hb0,hq24,hr24⟩
  case s3=>intro ff gg KK hK;obtain rfl:l3=false:=ff;clear gg;simp only [cond_false];have cc0:vv.cell? ⟨w.heap.size,0,none⟩=some (.int .i64 a):=cell_later hb0 a0;have cc1:vv.cell? ⟨w.heap.size,1,none⟩=some (.int .i64 b):=cell_later hb0 a1;go_simp;exact hK _ _ ⟨_,_,_,_,_,_,_,_,_,_,_,_,_,_,_,_,_,_,_,_,_,_,_,_,_,_,EX,rfl,aq,hb0,hq24,hr24⟩
  case s4=>intro ff gg KK hK;obtain rfl:l4=false:=ff;clear gg;simp only [cond_false];have cc0:vv.cell? ⟨w.heap.size+1,0,none⟩=some (.int .i64 c):=cell_later hb0 b0;have cc1:vv.cell? ⟨w.heap.size+1,1,none⟩=some (.int .i64 d):=cell_later hb0 b1;go_simp;exact hK _ _ ⟨_,_,_,_,_,_,_,_,_,_,_,_,_,_,_,_,_,_,_,_,_,_,_,_,_,_,EX,rfl,aq,hb0,hq24,hr24⟩
  case s5=>intro ff gg KK hK;obtain rfl:l2=true:=gg ⟨2,.data⟩ (by simp) rfl;obtain rfl:l3=true:=gg ⟨3,.data⟩ (by simp) rfl;obtain rfl:l4=true:=gg ⟨4,.data⟩ (by simp) rfl;obtain rfl:l5=false:=ff;clear gg;simp only [cond_true,cond_false];go_simp;((go_at_call 75;((with_reducible refine am (EA a b c d dl dh BW _ (b9 hb0 hok) MI) ?_);intro w' hb)));exact hK _ _ ⟨_,_,_,_,_,_,_,_,_,_,_,_,_,_,_,_,_,_,_,_,_,_,_,_,_,_,EX,rfl,aq,o5 hb hb0,hq24,(fun t=>(hr24 t).later hb)⟩
  case s6=>intro ff gg KK hK;obtain rfl:l1=true:=gg ⟨1,.data⟩ (by simp) rfl;obtain rfl:l5=true:=gg ⟨5,.data⟩ (by simp) rfl;obtain rfl:l6=false:=ff;clear gg;simp only [cond_true,cond_false];go_simp;((go_at_call 74;((with_reducible refine am (xO dl dh hl hh BW _ (b9 hb0 hok) HV) ?_);intro w' hb)));exact hK _ _ ⟨_,_,_,_,_,_,_,_,_,_,_,_,_,_,_,_,_,_,_,_,_,_,_,_,_,_,EX,rfl,aq,o5 hb hb0,hq24,(fun t=>(hr24 t).later hb)⟩
  case s7=>intro ff gg KK hK;obtain rfl:l7=false:=ff;clear gg;simp only [cond_false];go_simp;exact hK _ _ ⟨_,_,_,_,_,_,_,_,_,_,_,_,_,_,_,_,_,_,_,_,_,_,_,_,_,_,EX,rfl,aq,hb0,hq24,hr24⟩
  case s8=>intro ff gg KK hK;obtain rfl:l8=false:=ff;clear gg;simp only [cond_false];go_simp;exact hK _ _ ⟨_,_,_,_,_,_,_,_,_,_,_,_,_,_,_,_,_,_,_,_,_,_,_,_,_,_,EX,rfl,aq,hb0,hq24,hr24⟩
  case s9=>intro ff gg KK hK;obtain rfl:l9=false:=ff;clear gg;simp only [cond_false];go_simp;exact hK _ _ ⟨_,_,_,_,_,_,_,_,_,_,_,_,_,_,_,_,_,_,_,_,_,_,_,_,_,_,EX,rfl,aq,hb0,hq24,hr24⟩
  case s10=>intro ff gg KK hK;obtain rfl:l10=false:=ff;clear gg;simp only [cond_false];have cc0:vv.cell? ⟨w.heap.size,0,none⟩=some (.int .i64 a):=cell_later hb0 a0;have cc1:vv.cell? ⟨w.heap.size,1,none⟩=some (.int .i64 b):=cell_later hb0 a1;go_simp;exact hK _ _ ⟨_,_,_,_,_,_,_,_,_,_,_,_,_,_,_,_,_,_,_,_,_,_,_,_,_,_,EX,rfl,aq,hb0,hq24,hr24⟩
  case s11=>intro ff gg KK hK;obtain rfl:l9=true:=gg ⟨9,.data⟩ (by simp) rfl;obtain rfl:l10=true:=gg ⟨10,.data⟩ (by simp) rfl;obtain rfl:l11=false:=ff;clear gg;simp only [cond_true,cond_false];go_simp;((go_at_call 77;((with_reducible refine am (zG a b sl sh BW _ (b9 hb0 hok) S1) ?_);intro w' hb)));exact hK _ _ ⟨_,_,_,_,_,_,_,_,_,_,_,_,_,_,_,_,_,_,_,_,_,_,_,_,_,_,EX,rfl,aq,o5 hb hb0,hq24,(fun t=>(hr24 t).later hb)⟩
  case s12=>intro ff gg KK hK;obtain rfl:l12=false:=ff;clear gg;simp only [cond_false];go_simp;exact hK _ _ ⟨_,_,_,_,_,_,_,_,_,_,_,_,_,_,_,_,_,_,_,_,_,_,_,_,_,_,EX,rfl,aq,hb0,hq24,hr24⟩
  case s13=>intro ff gg KK hK;obtain rfl:l13=false:=ff;clear gg;simp only [cond_false];have cc0:vv.cell? ⟨w.heap.size+1,0,none⟩=some (.int .i64 c):=cell_later hb0 b0;have cc1:vv.cell? ⟨w.heap.size+1,1,none⟩=some (.int .i64 d):=cell_later hb0 b1;go_simp;exact hK _ _ ⟨_,_,_,_,_,_,_,_,_,_,_,_,_,_,_,_,_,_,_,_,_,_,_,_,_,_,EX,rfl,aq,hb0,hq24,hr24⟩
  case s14=>intro ff gg KK hK;obtain rfl:l12=true:=gg ⟨12,.data⟩ (by simp) rfl;obtain rfl:l13=true:=gg ⟨13,.data⟩ (by simp) rfl;obtain rfl:l14=false:=ff;clear gg;simp only [cond_true,cond_false];go_simp;((go_at_call 77;((with_reducible refine am (zG c d tl th BW _ (b9 hb0 hok) S2) ?_);intro w' hb)));exact hK _ _ ⟨_,_,_,_,_,_,_,_,_,_,_,_,_,_,_,_,_,_,_,_,_,_,_,_,_,_,EX,rfl,aq,o5 hb hb0,hq24,(fun t=>(hr24 t).later hb)⟩
  case s15=>intro ff gg KK hK;obtain rfl:l8=true:=gg ⟨8,.data⟩ (by simp) rfl;obtain rfl:l11=true:=gg ⟨11,.data⟩ (by simp) rfl;obtain rfl:l14=true:=gg ⟨14,.data⟩ (by simp) rfl;obtain rfl:l15=false:=ff;clear gg;simp only [cond_true,cond_false];go_simp;((go_at_call 76;((with_reducible refine am (BO sl sh tl th ml mh BW _ (b9 hb0 hok) M1) ?_);intro w' hb)));exact hK _ _ ⟨_,_,_,_,_,_,_,_,_,_,_,_,_,_,_,_,_,_,_,_,_,_,_,_,_,_,EX,rfl,aq,o5 hb hb0,hq24,(fun t=>(hr24 t).later hb)⟩
  case s16=>intro ff gg KK hK;obtain rfl:l16=false:=ff;clear gg;simp only [cond_false];go_simp;exact hK _ _ ⟨_,_,_,_,_,_,_,_,_,_,_,_,_,_,_,_,_,_,_,_,_,_,_,_,_,_,EX,rfl,aq,hb0,hq24,hr24⟩
  case s17=>intro ff gg KK hK;obtain rfl:l17=false:=ff;clear gg;simp only [cond_false];have cc0:vv.cell? ⟨w.heap.size+1+1,0,none⟩=some (.int .i64 e):=cell_later hb0 c0;have cc1:vv.cell? ⟨w.heap.size+1+1,1,none⟩=some (.int .i64 f):=cell_later hb0 c1;go_simp;exact hK _ _ ⟨_,_,_,_,_,_,_,_,_,_,_,_,_,_,_,_,_,_,_,_,_,_,_,_,_,_,EX,rfl,aq,hb0,hq24,hr24⟩
  case s18=>intro ff gg KK hK;obtain rfl:l16=true:=gg ⟨16,.data⟩ (by simp) rfl;obtain rfl:l17=true:=gg ⟨17,.data⟩ (by simp) rfl;obtain rfl:l18=false:=ff;clear gg;simp only [cond_true,cond_false];go_simp;((go_at_call 74;((with_reducible refine am (xO e f gl gh BW _ (b9 hb0 hok) H2) ?_);intro w' hb)));exact hK _ _ ⟨_,_,_,_,_,_,_,_,_,_,_,_,_,_,_,_,_,_,_,_,_,_,_,_,_,_,EX,rfl,aq,o5 hb hb0,hq24,(fun t=>(hr24 t).later hb)⟩
  case s19=>intro ff gg KK hK;obtain rfl:l7=true:=gg ⟨7,.data⟩ (by simp) rfl;obtain rfl:l15=true:=gg ⟨15,.data⟩ (by simp) rfl;obtain rfl:l18=true:=gg ⟨18,.data⟩ (by simp) rfl;obtain rfl:l19=false:=ff;clear gg;simp only [cond_true,cond_false];go_simp;((go_at_call 76;((with_reducible refine am (BO ml mh gl gh nl nh BW _ (b9 hb0 hok) M2) ?_);intro w' hb)));exact hK _ _ ⟨_,_,_,_,_,_,_,_,_,_,_,_,_,_,_,_,_,_,_,_,_,_,_,_,_,_,EX,rfl,aq,o5 hb hb0,hq24,(fun t=>(hr24 t).later hb)⟩
  case s20=>intro ff gg KK hK;obtain rfl:l6=true:=gg ⟨6,.data⟩ (by simp) rfl;obtain rfl:l19=true:=gg ⟨19,.data⟩ (by simp) rfl;obtain rfl:l20=false:=ff;clear gg;simp only [cond_true,cond_false];go_simp;((go_at_call 49;((with_reducible refine am (AD.out _) ?_);intro w' hb)));exact hK _ _ ⟨_,_,_,_,_,_,_,_,_,_,_,_,_,_,_,_,_,_,_,_,_,_,_,_,_,_,EX,rfl,aq,o5 hb hb0,hq24,(fun t=>(hr24 t).later hb)⟩
  case s21=>intro ff gg KK hK;obtain rfl:l20=true:=gg ⟨20,.data⟩ (by simp) rfl;obtain rfl:l21=false:=ff;clear gg;simp only [cond_true,cond_false];go_simp;exact hK _ _ ⟨_,_,_,_,_,_,_,_,_,_,_,_,_,_,_,_,_,_,_,_,_,_,_,_,_,_,EX,rfl,aq,hb0,hq24,hr24⟩
  case s22=>intro ff gg KK hK;obtain rfl:l20=true:=gg ⟨20,.data⟩ (by simp) rfl;obtain rfl:l22=false:=ff;clear gg;simp only [cond_true,cond_false];go_simp;exact hK _ _ ⟨_,_,_,_,_,_,_,_,_,_,_,_,_,_,_,_,_,_,_,_,_,_,_,_,_,_,EX,rfl,aq,hb0,hq24,hr24⟩
  case s23=>intro ff gg KK hK;obtain rfl:l0=true:=gg ⟨0,.data⟩ (by simp) rfl;obtain rfl:l21=true:=gg ⟨21,.data⟩ (by simp) rfl;obtain rfl:l22=true:=gg ⟨22,.data⟩ (by simp) rfl;obtain rfl:l23=false:=ff;clear gg;simp only [cond_true,cond_false];go_simp;((go_at_call 73;((with_reducible refine am (lV xl xh BW _ (b9 hb0 hok)) ?_);intro w' hb)));exact hK _ _ ⟨_,_,_,_,_,_,_,_,_,_,_,_,_,_,_,_,_,_,_,_,_,_,_,_,_,_,EX,rfl,aq,o5 hb hb0,hq24,(fun t=>(hr24 t).later hb)⟩
  case s24=>intro ff gg KK hK;obtain rfl:l24=false:=ff;clear gg;simp only [cond_false];go_simp;exact hK _ _ ⟨_,_,_,_,_,_,_,_,_,_,_,_,_,_,_,_,_,_,_,_,_,_,_,_,_,_,vv.heap.size,rfl,aq,bw,(fun _=>rfl),(fun _=>L8.alloc hb0 _ _ _ _ _ _ hq24)⟩
  case s25=>intro ff gg KK hK;obtain rfl:l24=true:=gg ⟨24,.data⟩ (by simp) rfl;obtain rfl:l23=true:=gg ⟨23,.data⟩ (by simp) rfl;obtain rfl:l25=false:=ff;clear gg;simp only [cond_true];obtain ⟨m1,m2,fz0,fz1,y0,y1,cz0,cz1,m7⟩:=hr24 rfl;go_simp;exact hK _ _ ⟨_,_,_,_,_,_,_,_,_,_,_,_,_,_,_,_,_,_,_,_,_,_,_,_,_,_,EX,rfl,aq,((hb0.setCell m1 _).setCell m1 _),(fun _=>rfl),(fun _=>(hr24 rfl).store _ _ _)⟩
 case hdone=>
  intro LL aa vv h hd
  obtain ⟨l0,l1,l2,l3,l4,l5,l6,l7,l8,l9,l10,l11,l12,l13,l14,l15,l16,l17,l18,l19,l20,l21,l22,l23,l24,l25,EX,hL,ha,hb0,hq24,hr24⟩:=h
  rw [hL] at hd
  have t0:l0=true:=hd 0 (by decide)
  have t1:l1=true:=hd 1 (by decide)
  have t2:l2=true:=hd 2 (by decide)
  have t3:l3=true:=hd 3 (by decide)
  have t4:l4=true:=hd 4 (by decide)
  have t5:l5=true:=hd 5 (by decide)
  have t6:l6=true:=hd 6 (by decide)
  have t7:l7=true:=hd 7 (by decide)
  have t8:l8=true:=hd 8 (by decide)
  have t9:l9=true:=hd 9 (by decide)
  have t10:l10=true:=hd 10 (by decide)
  have t11:l11=true:=hd 11 (by decide)
  have t12:l12=true:=hd 12 (by decide)
  have t13:l13=true:=hd 13 (by decide)
  have t14:l14=true:=hd 14 (by decide)
  have t15:l15=true:=hd 15 (by decide)
  have t16:l16=true:=hd 16 (by decide)
  have t17:l17=true:=hd 17 (by decide)
  have t18:l18=true:=hd 18 (by decide)
  have t19:l19=true:=hd 19 (by decide)
  have t20:l20=true:=hd 20 (by decide)
  have t21:l21=true:=hd 21 (by decide)
  have t22:l22=true:=hd 22 (by decide)
  have t23:l23=true:=hd 23 (by decide)
  have t24:l24=true:=hd 24 (by decide)
  have t25:l25=true:=hd 25 (by decide)
  clear hd hL hq24
  subst t0 t1 t2 t3 t4 t5 t6 t7 t8 t9 t10 t11 t12 t13 t14 t15 t16 t17 t18 t19 t20 t21 t22 t23 t24 t25
  simp only [cond_true,List.setIfInBounds_toArray,List.set_cons_zero,List.set_cons_succ] at ha
  subst ha
  obtain ⟨EXg,EXl,EXf0,EXf1,y0,y1,EXc0,EXc1,hy⟩:=hr24 rfl
  obtain ⟨rfl,rfl⟩:=hy rfl
  clear hr24
  have hok:=b9 hb0 hok
  have r0:=cell_later hb0 r0
  have r1:=cell_later hb0 r1
  have rf:∀o,vv.frozen? ⟨w.heap.size+1+1+1,o,none⟩=false:=fun o=>(hb0.frozen (p:=⟨w.heap.size+1+1+1,o,none⟩) g1).trans (rf o)
  have hw1:Below w.heap.size w vv:=Below.trans hw0 (hb0.mono (by omega))
  have g9:=hb0.size
  have g1:w.heap.size+1+1+1<vv.heap.size:=by omega
  have gB:=C6 hok
  have KA:=b6 fun w' (hb:Below vv.heap.size vv w')=>wW L H BW w' (b9 hb hok)
  obtain ⟨ok1,ok2⟩:=hok
  clear hw0 hb0 g9 a0 a1 b0 b1 c0 c1
  go_wp2_with (first|(go_at_call 79;((with_reducible refine am (AH.out _) ?_);intro w' hb);replace hb:=mU;obtain ⟨hcell,hfroz,hz,z6,z7,z8,z9,_⟩:=oH;(try have bW:BW<w'.heap.size:=by omega);obtain ⟨w5,rfl⟩:=nm w')|(go_at_call 78;((with_reducible refine (KA.out _ ?kb).mono ?_);(case kb=>(exact bw;done));rintro e w' ⟨rfl,hb⟩);replace hb:=mU;obtain ⟨hcell,hfroz,hz,z6,z7,z8,z9,_⟩:=oH;(try have bW:BW<w'.heap.size:=by omega);obtain ⟨w6,rfl⟩:=nm w'))
  exact bodyPost_ret (v:= .tuple #[.agg #[.int .i64 L,.int .i64 H],.int .i64 0]) (by first|(simp only [results,Tryz.results22];go_simp;done)|simp [results,Tryz.results22,go_sem, *]) rfl ⟨rfl,bw⟩
end Go.Proofs.YtdhbeoahpfimbaaGreat
