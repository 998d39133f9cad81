/- Part of the proof of TopDistances. -/
import Derived.Test.YtdhbeoahpfimbaaGreatPw
import Derived.Test.YtdhbeoahpfimbaaGreatPv
import Derived.Test.YtdhbeoahpfimbaaGreatAg
namespace Go.Proofs.YtdhbeoahpfimbaaGreat
open Go.RowKit
def I6 (w:World) (B:Nat):Prop:=w.cell? ⟨B,0,none⟩=some (.int .i64 0)/\w.frozen? ⟨B,0,none⟩=false
theorem b9 {w w':World} {B:Nat} (hb:Below w.heap.size w w') (h:I6 w B):I6 w' B:=
 have l:=World.block_lt_of_cell? _ _ h.1
 ⟨(hb.cell (p:=⟨B,0,none⟩) l).trans h.1,(hb.frozen (p:=⟨B,0,none⟩) l).trans h.2⟩
theorem u8 {w:World} {B d:Nat} {os:Array Obj} (h:I6 w B):I6 (Go.Sort.grow (redrawn w d) os) B:=
 have l:=World.block_lt_of_cell? _ _ h.1
 ⟨((below_regrown w d os).cell (p:=⟨B,0,none⟩) l).trans h.1,((below_regrown w d os).frozen (p:=⟨B,0,none⟩) l).trans h.2⟩
theorem C6 {w:World} {B:Nat} (h:I6 w B):B<w.heap.size:=World.block_lt_of_cell? _ _ h.1
theorem M9 (a b:Int) (B1:Nat) (w:World) (h:I6 w B1):
  Calls Tryz.prog 146 #[.pointer (some ⟨B1,0,none⟩),.agg #[.int .i64 a,.int .i64 b],.int .i64 0] w fun e w'=>e= .returned (.agg #[.int .i64 a,.int .i64 b])/\Below w.heap.size w w':=by
 have hB:=C6 h
 have h4:B1<w.heap.size+1:=(by omega)
 have h5:B1<w.heap.size+1+1:=(by omega)
 obtain ⟨h1,h2⟩:=h
 have hs:((w.alloc (Obj.cells #[.int .i64 a,.int .i64 b] 52)).alloc (Obj.cells #[.int .i64 0,.int .i64 0] 52)).setCell ⟨B1,0,none⟩ (.int .i64 0)=(w.alloc (Obj.cells #[.int .i64 a,.int .i64 b] 52)).alloc (Obj.cells #[.int .i64 0,.int .i64 0] 52):=D9 (by simp [go_sem, *])
 go_enter Tryz.func146,Tryz.ntmps146
 go_wp2
 exact bodyPost_ret (v:= .agg #[.int .i64 a,.int .i64 b]) (by first|(simp only [results,Tryz.results146];go_simp;done)|simp [results,Tryz.results146,go_sem, *]) rfl ⟨rfl,bw⟩
theorem qC (a b:Int) (B1:Nat) (w:World) (h:I6 w B1):
  Calls Tryz.prog 145 #[.pointer (some ⟨B1,0,none⟩),.agg #[.int .i64 a,.int .i64 b],.int .i64 0] w fun e w'=>e= .returned (.agg #[.int .i64 a,.int .i64 b])/\Below w.heap.size w w':=by
 have hB:=C6 h
 have h4:B1<w.heap.size+1:=(by omega)
 have h5:B1<w.heap.size+1+1:=(by omega)
 obtain ⟨h1,h2⟩:=h
 have hs:((w.alloc (Obj.cells #[.int .i64 a,.int .i64 b] 23)).alloc (Obj.cells #[.int .i64 0,.int .i64 0] 23)).setCell ⟨B1,0,none⟩ (.int .i64 0)=(w.alloc (Obj.cells #[.int .i64 a,.int .i64 b] 23)).alloc (Obj.cells #[.int .i64 0,.int .i64 0] 23):=D9 (by simp [go_sem, *])
 go_enter Tryz.func145,Tryz.ntmps145
 go_wp2
 exact bodyPost_ret (v:= .agg #[.int .i64 a,.int .i64 b]) (by first|(simp only [results,Tryz.results145];go_simp;done)|simp [results,Tryz.results145,go_sem, *]) rfl ⟨rfl,bw⟩
theorem pJ (a b x y:Int) (B1:Nat) (w:World) (h:I6 w B1)
  (S:CB 125 #[.agg #[.int .i64 a,.int .i64 b]] (.tuple #[.agg #[.int .i64 x,.int .i64 y],.int .i64 0])):
  Calls Tryz.prog 142 #[.pointer (some ⟨B1,0,none⟩),.agg #[.int .i64 a,.int .i64 b]] w fun e w'=>e= .returned (.agg #[.int .i64 x,.int .i64 y])/\Below w.heap.size w w':=by
 have hB:=C6 h
 have K:=b6 fun w' (hb:Below w.heap.size w w')=>M9 x y B1 w' (b9 hb h)
 go_enter Tryz.func142,Tryz.ntmps142
 go_wp2_with (first|(go_at_call 125;((with_reducible refine am (S.out _) ?_);intro w' hb);replace hb:=mU;obtain ⟨hcell,hfroz,hz,z6,z7,z8,z9,_⟩:=oH;(try have hB1:B1<w'.heap.size:=by omega);(try have hB3:B1<w'.heap.size+1:=by omega);obtain ⟨w1,rfl⟩:=nm w')|(go_at_call 146;((with_reducible refine (K.out _ ?kb).mono ?_);(case kb=>(exact bw;done));rintro e w' ⟨rfl,hb⟩);replace hb:=mU;obtain ⟨hcell,hfroz,hz,z6,z7,z8,z9,_⟩:=oH;(try have hB1:B1<w'.heap.size:=by omega);(try have hB3:B1<w'.heap.size+1:=by omega);obtain ⟨w2,rfl⟩:=nm w'))
 exact bodyPost_ret (v:= .agg #[.int .i64 x,.int .i64 y]) (by first|(simp only [results,Tryz.results142];go_simp;done)|simp [results,Tryz.results142,go_sem, *]) rfl ⟨rfl,bw⟩
theorem eG (a b x y:Int) (B1:Nat) (w:World) (h:I6 w B1)
  (S:CB 124 #[.agg #[.int .i64 a,.int .i64 b]] (.tuple #[.agg #[.int .i64 x,.int .i64 y],.int .i64 0])):
  Calls Tryz.prog 143 #[.pointer (some ⟨B1,0,none⟩),.agg #[.int .i64 a,.int .i64 b]] w fun e w'=>e= .returned (.agg #[.int .i64 x,.int .i64 y])/\Below w.heap.size w w':=by
 have hB:=C6 h
 have K:=b6 fun w' (hb:Below w.heap.size w w')=>M9 x y B1 w' (b9 hb h)
 go_enter Tryz.func143,Tryz.ntmps143
 go_wp2_with (first|(go_at_call 124;((with_reducible refine am (S.out _) ?_);intro w' hb);replace hb:=mU;obtain ⟨hcell,hfroz,hz,z6,z7,z8,z9,_⟩:=oH;(try have hB1:B1<w'.heap.size:=by omega);(try have hB3:B1<w'.heap.size+1:=by omega);obtain ⟨w1,rfl⟩:=nm w')|(go_at_call 146;((with_reducible refine (K.out _ ?kb).mono ?_);(case kb=>(exact bw;done));rintro e w' ⟨rfl,hb⟩);replace hb:=mU;obtain ⟨hcell,hfroz,hz,z6,z7,z8,z9,_⟩:=oH;(try have hB1:B1<w'.heap.size:=by omega);(try have hB3:B1<w'.heap.size+1:=by omega);obtain ⟨w2,rfl⟩:=nm w'))
 exact bodyPost_ret (v:= .agg #[.int .i64 x,.int .i64 y]) (by first|(simp only [results,Tryz.results143];go_simp;done)|simp [results,Tryz.results143,go_sem, *]) rfl ⟨rfl,bw⟩
theorem eI (a b c d x y:Int) (B1:Nat) (w:World) (h:I6 w B1)
  (S:CB 150 #[.agg #[.int .i64 a,.int .i64 b],.agg #[.int .i64 c,.int .i64 d]] (.tuple #[.agg #[.int .i64 x,.int .i64 y],.int .i64 0])):
  Calls Tryz.prog 141 #[.pointer (some ⟨B1,0,none⟩),.agg #[.int .i64 a,.int .i64 b],.agg #[.int .i64 c,.int .i64 d]] w fun e w'=>e= .returned (.agg #[.int .i64 x,.int .i64 y])/\Below w.heap.size w w':=by
 have hB:=C6 h
 have K:=b6 fun w' (hb:Below w.heap.size w w')=>M9 x y B1 w' (b9 hb h)
 go_enter Tryz.func141,Tryz.ntmps141
 go_wp2_with (first|(go_at_call 150;((with_reducible refine am (S.out _) ?_);intro w' hb);replace hb:=mU;obtain ⟨hcell,hfroz,hz,z6,z7,z8,z9,_⟩:=oH;(try have hB1:B1<w'.heap.size:=by omega);(try have hB3:B1<w'.heap.size+1:=by omega);obtain ⟨w1,rfl⟩:=nm w')|(go_at_call 146;((with_reducible refine (K.out _ ?kb).mono ?_);(case kb=>(exact bw;done));rintro e w' ⟨rfl,hb⟩);replace hb:=mU;obtain ⟨hcell,hfroz,hz,z6,z7,z8,z9,_⟩:=oH;(try have hB1:B1<w'.heap.size:=by omega);(try have hB3:B1<w'.heap.size+1:=by omega);obtain ⟨w2,rfl⟩:=nm w'))
 exact bodyPost_ret (v:= .agg #[.int .i64 x,.int .i64 y]) (by first|(simp only [results,Tryz.results141];go_simp;done)|simp [results,Tryz.results141,go_sem, *]) rfl ⟨rfl,bw⟩
theorem BV (a b c d x y:Int) (B1:Nat) (w:World) (h:I6 w B1)
  (S:CB 49 #[.agg #[.int .i64 a,.int .i64 b],.agg #[.int .i64 c,.int .i64 d]] (.tuple #[.agg #[.int .i64 x,.int .i64 y],.int .i64 0])):
  Calls Tryz.prog 148 #[.pointer (some ⟨B1,0,none⟩),.agg #[.int .i64 a,.int .i64 b],.agg #[.int .i64 c,.int .i64 d]] w fun e w'=>e= .returned (.agg #[.int .i64 x,.int .i64 y])/\Below w.heap.size w w':=by
 have hB:=C6 h
 have K:=b6 fun w' (hb:Below w.heap.size w w')=>M9 x y B1 w' (b9 hb h)
 go_enter Tryz.func148,Tryz.ntmps148
 go_wp2_with (first|(go_at_call 49;((with_reducible refine am (S.out _) ?_);intro w' hb);replace hb:=mU;obtain ⟨hcell,hfroz,hz,z6,z7,z8,z9,_⟩:=oH;(try have hB1:B1<w'.heap.size:=by omega);(try have hB3:B1<w'.heap.size+1:=by omega);obtain ⟨w1,rfl⟩:=nm w')|(go_at_call 146;((with_reducible refine (K.out _ ?kb).mono ?_);(case kb=>(exact bw;done));rintro e w' ⟨rfl,hb⟩);replace hb:=mU;obtain ⟨hcell,hfroz,hz,z6,z7,z8,z9,_⟩:=oH;(try have hB1:B1<w'.heap.size:=by omega);(try have hB3:B1<w'.heap.size+1:=by omega);obtain ⟨w2,rfl⟩:=nm w'))
 exact bodyPost_ret (v:= .agg #[.int .i64 x,.int .i64 y]) (by first|(simp only [results,Tryz.results148];go_simp;done)|simp [results,Tryz.results148,go_sem, *]) rfl ⟨rfl,bw⟩
theorem WD (a b c d x y:Int) (B1:Nat) (w:World) (h:I6 w B1)
  (S:CB 224 #[.agg #[.int .i64 a,.int .i64 b],.agg #[.int .i64 c,.int .i64 d]] (.tuple #[.agg #[.int .i64 x,.int .i64 y],.int .i64 0])):
  Calls Tryz.prog 144 #[.pointer (some ⟨B1,0,none⟩),.agg #[.int .i64 a,.int .i64 b],.agg #[.int .i64 c,.int .i64 d]] w fun e w'=>e= .returned (.agg #[.int .i64 x,.int .i64 y])/\Below w.heap.size w w':=by
 have hB:=C6 h
 have K:=b6 fun w' (hb:Below w.heap.size w w')=>M9 x y B1 w' (b9 hb h)
 go_enter Tryz.func144,Tryz.ntmps144
 go_wp2_with (first|(go_at_call 224;((with_reducible refine am (S.out _) ?_);intro w' hb);replace hb:=mU;obtain ⟨hcell,hfroz,hz,z6,z7,z8,z9,_⟩:=oH;(try have hB1:B1<w'.heap.size:=by omega);(try have hB3:B1<w'.heap.size+1:=by omega);obtain ⟨w1,rfl⟩:=nm w')|(go_at_call 146;((with_reducible refine (K.out _ ?kb).mono ?_);(case kb=>(exact bw;done));rintro e w' ⟨rfl,hb⟩);replace hb:=mU;obtain ⟨hcell,hfroz,hz,z6,z7,z8,z9,_⟩:=oH;(try have hB1:B1<w'.heap.size:=by omega);(try have hB3:B1<w'.heap.size+1:=by omega);obtain ⟨w2,rfl⟩:=nm w'))
 exact bodyPost_ret (v:= .agg #[.int .i64 x,.int .i64 y]) (by first|(simp only [results,Tryz.results144];go_simp;done)|simp [results,Tryz.results144,go_sem, *]) rfl ⟨rfl,bw⟩
theorem Q8 (n:Int) (w:World):
  Calls Tryz.prog 140 #[.int .i64 n] w fun e w'=>e= .returned (.agg #[.int .i64 n,.int .i64 n])/\Below w.heap.size w w':=by
 go_enter Tryz.func140,Tryz.ntmps140
 go_wp2
 exact bodyPost_ret (v:= .agg #[.int .i64 n,.int .i64 n]) (by first|(simp only [results,Tryz.results140];go_simp;done)|simp [results,Tryz.results140,go_sem, *]) rfl ⟨rfl,bw⟩
set_option maxRecDepth 100000 in
set_option maxHeartbeats 8000000 in
theorem rM (la lo lb lob dl c1l c1h c2l c2h ml mh hl hh sl sh h2l h2h tl th L H:Int) (B1:Nat) (w:World) (ok:I6 w B1) (d0: -100000000<=lob-lo) (d1:lob-lo<=100000000) (e0: -100000000<=lb-la) (e1:lb-la<=100000000)
  (SG:Hid (∀w,Calls Tryz.prog 21 #[.int .i64 (lob-lo)] w fun e w'=>e= .returned (.int .i64 dl)/\w=w'))
  (C1:CB 124 #[.agg #[.int .i64 la,.int .i64 la]] (.tuple #[.agg #[.int .i64 c1l,.int .i64 c1h],.int .i64 0]))
  (C2:CB 124 #[.agg #[.int .i64 lb,.int .i64 lb]] (.tuple #[.agg #[.int .i64 c2l,.int .i64 c2h],.int .i64 0]))
  (M1:CB 150 #[.agg #[.int .i64 c1l,.int .i64 c1h],.agg #[.int .i64 c2l,.int .i64 c2h]] (.tuple #[.agg #[.int .i64 ml,.int .i64 mh],.int .i64 0]))
  (H1:CB 147 #[.agg #[.int .i64 dl,.int .i64 dl]] (.tuple #[.agg #[.int .i64 hl,.int .i64 hh],.int .i64 0]))
  (M2:CB 150 #[.agg #[.int .i64 ml,.int .i64 mh],.agg #[.int .i64 hl,.int .i64 hh]] (.tuple #[.agg #[.int .i64 sl,.int .i64 sh],.int .i64 0]))
  (H2:CB 147 #[.agg #[.int .i64 (lb-la),.int .i64 (lb-la)]] (.tuple #[.agg #[.int .i64 h2l,.int .i64 h2h],.int .i64 0]))
  (A:CB 49 #[.agg #[.int .i64 h2l,.int .i64 h2h],.agg #[.int .i64 sl,.int .i64 sh]] (.tuple #[.agg #[.int .i64 tl,.int .i64 th],.int .i64 0]))
  (AH:CB 79 #[.agg #[.int .i64 tl,.int .i64 th]] (.tuple #[.agg #[.int .i64 L,.int .i64 H],.int .i64 0])):
  Calls Tryz.prog 61 #[.pointer (some ⟨B1,0,none⟩),.agg #[.int .i64 la,.int .i64 lo],.agg #[.int .i64 lb,.int .i64 lob]] w fun e w'=>e= .returned (.agg #[.int .i64 L,.int .i64 H])/\Below w.heap.size w w':=by
 have hB:=C6 ok
 go_enter Tryz.func61,Tryz.ntmps61
 go_upto_region 2 with (go_at_call 21;((with_reducible refine am (SG.out _) ?_);rintro w' rfl))
 (refine m9 ?_;intro w' hb;replace hb:=mU;obtain ⟨hcell,hfroz,hz,_⟩:=mB)
 have hw0:Below w.heap.size w w':=bw
 have a0:=cq w' w.heap.size 0 la
 have a1:=cq w' w.heap.size 1 lo
 have b0:=cq w' (w.heap.size+1) 0 lb
 have b1:=cq w' (w.heap.size+1) 1 lob
 have r0:=cq w' (w.heap.size+1+1) 0 0
 have r1:=cq w' (w.heap.size+1+1) 1 0
 have rf:∀o,w'.frozen? ⟨w.heap.size+1+1,o,none⟩=false:=by intro o;simp [go_sem, *]
 have hok:=b9 hw0 ok
 clear hcell hfroz hz hb
 obtain ⟨V0,rfl⟩:=nm w'
 have g2:w.heap.size+1+1<V0.heap.size:=World.block_lt_of_cell? _ _ r0
 have g1:w.heap.size+1<V0.heap.size:=by omega
 have g0:w.heap.size<V0.heap.size:=by omega
 refine B8 (fun a0 LL aa vv=>∃(l0 l1 l2 l3 l4 l5 l6 l7 l8 l9 l10 l11 l12 l13 l14 l15 l16 l17 l18 l19 l20 l21 l22:Bool) (EE:Nat),LL= #[l0,l1,l2,l3,l4,l5,l6,l7,l8,l9,l10,l11,l12,l13,l14,l15,l16,l17,l18,l19,l20,l21,l22]/\aa={a0 with tmps:=((((((((((((((((((((((a0.tmps.setIfInBounds 15 (cond l0 (.pointer (some ⟨B1,0,none⟩)) (undef))).setIfInBounds 16 (cond l1 (.pointer (some ⟨B1,0,none⟩)) (undef))).setIfInBounds 17 (cond l2 (.pointer (some ⟨B1,0,none⟩)) (undef))).setIfInBounds 18 (cond l3 (.pointer (some ⟨w.heap.size,0,none⟩)) (undef))).setIfInBounds 19 (cond l4 (.int .i64 la) (undef))).setIfInBounds 20 (cond l5 (.agg #[.int .i64 la,.int .i64 la]) (undef))).setIfInBounds 21 (cond l6 (.agg #[.int .i64 c1l,.int .i64 c1h]) (undef))).setIfInBounds 22 (cond l7 (.pointer (some ⟨B1,0,none⟩)) (undef))).setIfInBounds 23 (cond l8 (.pointer (some ⟨w.heap.size+1,0,none⟩)) (undef))).setIfInBounds 24 (cond l9 (.int .i64 lb) (undef))).setIfInBounds 25 (cond l10 (.agg #[.int .i64 lb,.int .i64 lb]) (undef))).setIfInBounds 26 (cond l11 (.agg #[.int .i64 c2l,.int .i64 c2h]) (undef))).setIfInBounds 27 (cond l12 (.agg #[.int .i64 ml,.int .i64 mh]) (undef))).setIfInBounds 28 (cond l13 (.pointer (some ⟨B1,0,none⟩)) (undef))).setIfInBounds 29 (cond l14 (.int .i64 dl) (undef))).setIfInBounds 30 (cond l15 (.agg #[.int .i64 dl,.int .i64 dl]) (undef))).setIfInBounds 31 (cond l16 (.tuple #[.agg #[.int .i64 hl,.int .i64 hh],.int .i64 0]) (undef))).setIfInBounds 32 (cond l17 (.agg #[.int .i64 hl,.int .i64 hh]) (undef))).setIfInBounds 33 (cond l18 (.int .i64 0) (undef))).setIfInBounds 34 (cond l19 (.agg #[.int .i64 hl,.int .i64 hh]) (undef))).setIfInBounds 35 (cond l20 (.agg #[.int .i64 sl,.int .i64 sh]) (undef))).setIfInBounds 8 (cond l21 (.pointer (some ⟨EE,0,none⟩)) (undef)))}/\Below V0.heap.size V0 vv/\(l22=true->l21=true)/\(l21=true->L8 V0 vv EE l22 (sl) (sh))) (by kernel_rfl) (by kernel_rfl) ?h0 ?hsize ?hdone ?hstep
 case h0=>
  refine ⟨false,false,false,false,false,false,false,false,false,false,false,false,false,false,false,false,false,false,false,false,false,false,false,0,rfl,?_,bv,(fun h=>by cases h),(fun h=>by cases h)⟩
  simp only [cond_false,List.setIfInBounds_toArray,List.set_cons_zero,List.set_cons_succ]
 case hsize=>
  intro LL aa vv h
  obtain ⟨l0,l1,l2,l3,l4,l5,l6,l7,l8,l9,l10,l11,l12,l13,l14,l15,l16,l17,l18,l19,l20,l21,l22,EE,hL,_⟩:=h
  rw [hL]
  rfl
 case hstep=>
  intro LL aa vv h
  obtain ⟨l0,l1,l2,l3,l4,l5,l6,l7,l8,l9,l10,l11,l12,l13,l14,l15,l16,l17,l18,l19,l20,l21,l22,EE,hL,ha,hb0,hq21,hr21⟩:=h
  simp only [List.setIfInBounds_toArray,List.set_cons_zero,List.set_cons_succ] at ha
  subst hL
  subst ha
  refine ⟨?s0,?s1,?s2,?s3,?s4,?s5,?s6,?s7,?s8,?s9,?s10,?s11,?s12,?s13,?s14,?s15,?s16,?s17,?s18,?s19,?s20,?s21,?s22,trivial⟩
  case s0=>intro ff gg KK hK;obtain rfl:l0=false:=ff;clear gg;simp only [cond_false];go_simp;exact hK _ _ ⟨_,_,_,_,_,_,_,_,_,_,_,_,_,_,_,_,_,_,_,_,_,_,_,EE,rfl,aq,hb0,hq21,hr21⟩
  case s1=>intro ff gg KK hK;obtain rfl:l1=false:=ff;clear gg;simp only [cond_false];go_simp;exact hK _ _ ⟨_,_,_,_,_,_,_,_,_,_,_,_,_,_,_,_,_,_,_,_,_,_,_,EE,rfl,aq,hb0,hq21,hr21⟩
  case s2=>intro ff gg KK hK;obtain rfl:l2=false:=ff;clear gg;simp only [cond_false];go_simp;exact hK _ _ ⟨_,_,_,_,_,_,_,_,_,_,_,_,_,_,_,_,_,_,_,_,_,_,_,EE,rfl,aq,hb0,hq21,hr21⟩
  case s3=>intro ff gg KK hK;obtain rfl:l3=false:=ff;clear gg;simp only [cond_false];go_simp;exact hK _ _ ⟨_,_,_,_,_,_,_,_,_,_,_,_,_,_,_,_,_,_,_,_,_,_,_,EE,rfl,aq,hb0,hq21,hr21⟩
  case s4=>intro ff gg KK hK;obtain rfl:l3=true:=gg ⟨3,.data⟩ (by simp) rfl;obtain rfl:l4=false:=ff;clear gg;simp only [cond_true,cond_false];have cc0:vv.cell? ⟨w.heap.size,0,none⟩=some (.int .i64 la):=cell_later hb0 a0;go_simp;exact hK _ _ ⟨_,_,_,_,_,_,_,_,_,_,_,_,_,_,_,_,_,_,_,_,_,_,_,EE,rfl,aq,hb0,hq21,hr21⟩
  case s5=>intro ff gg KK hK;obtain rfl:l4=true:=gg ⟨4,.data⟩ (by simp) rfl;obtain rfl:l5=false:=ff;clear gg;simp only [cond_true,cond_false];go_simp;((go_at_call 140;((with_reducible refine am (Q8 _ _) ?_);intro w' hb)));exact hK _ _ ⟨_,_,_,_,_,_,_,_,_,_,_,_,_,_,_,_,_,_,_,_,_,_,_,EE,rfl,aq,o5 hb hb0,hq21,(fun t=>(hr21 t).later hb)⟩
  case s6=>intro ff gg KK hK;obtain rfl:l2=true:=gg ⟨2,.data⟩ (by simp) rfl;obtain rfl:l5=true:=gg ⟨5,.data⟩ (by simp) rfl;obtain rfl:l6=false:=ff;clear gg;simp only [cond_true,cond_false];go_simp;((go_at_call 143;((with_reducible refine am (eG la la c1l c1h B1 _ (b9 hb0 hok) C1) ?_);intro w' hb)));exact hK _ _ ⟨_,_,_,_,_,_,_,_,_,_,_,_,_,_,_,_,_,_,_,_,_,_,_,EE,rfl,aq,o5 hb hb0,hq21,(fun t=>(hr21 t).later hb)⟩
  case s7=>intro ff gg KK hK;obtain rfl:l7=false:=ff;clear gg;simp only [cond_false];go_simp;exact hK _ _ ⟨_,_,_,_,_,_,_,_,_,_,_,_,_,_,_,_,_,_,_,_,_,_,_,EE,rfl,aq,hb0,hq21,hr21⟩
  case s8=>intro ff gg KK hK;obtain rfl:l8=false:=ff;clear gg;simp only [cond_false];go_simp;exact hK _ _ ⟨_,_,_,_,_,_,_,_,_,_,_,_,_,_,_,_,_,_,_,_,_,_,_,EE,rfl,aq,hb0,hq21,hr21⟩
  case s9=>intro ff gg KK hK;obtain rfl:l8=true:=gg ⟨8,.data⟩ (by simp) rfl;obtain rfl:l9=false:=ff;clear gg;simp only [cond_true,cond_false];have cc0:vv.cell? ⟨w.heap.size+1,0,none⟩=some (.int .i64 lb):=cell_later hb0 b0;go_simp;exact hK _ _ ⟨_,_,_,_,_,_,_,_,_,_,_,_,_,_,_,_,_,_,_,_,_,_,_,EE,rfl,aq,hb0,hq21,hr21⟩
  case s10=>intro ff gg KK hK;obtain rfl:l9=true:=gg ⟨9,.data⟩ (by simp) rfl;obtain rfl:l10=false:=ff;clear gg;simp only [cond_true,cond_false];go_simp;((go_at_call 140;((with_reducible refine am (Q8 _ _) ?_);intro w' hb)));exact hK _ _ ⟨_,_,_,_,_,_,_,_,_,_,_,_,_,_,_,_,_,_,_,_,_,_,_,EE,rfl,aq,o5 hb hb0,hq21,(fun t=>(hr21 t).later hb)⟩
  case s11=>intro ff gg KK hK;obtain rfl:l7=true:=gg ⟨7,.data⟩ (by simp) rfl;obtain rfl:l10=true:=gg ⟨10,.data⟩ (by simp) rfl;obtain rfl:l11=false:=ff;clear gg;simp only [cond_true,cond_false];go_simp;((go_at_call 143;((with_reducible refine am (eG lb lb c2l c2h B1 _ (b9 hb0 hok) C2) ?_);intro w' hb)));exact hK _ _ ⟨_,_,_,_,_,_,_,_,_,_,_,_,_,_,_,_,_,_,_,_,_,_,_,EE,rfl,aq,o5 hb hb0,hq21,(fun t=>(hr21 t).later hb)⟩
  case s12=>intro ff gg KK hK;obtain rfl:l1=true:=gg ⟨1,.data⟩ (by simp) rfl;obtain rfl:l6=true:=gg ⟨6,.data⟩ (by simp) rfl;obtain rfl:l11=true:=gg ⟨11,.data⟩ (by simp) rfl;obtain rfl:l12=false:=ff;clear gg;simp only [cond_true,cond_false];go_simp;((go_at_call 141;((with_reducible refine am (eI c1l c1h c2l c2h ml mh B1 _ (b9 hb0 hok) M1) ?_);intro w' hb)));exact hK _ _ ⟨_,_,_,_,_,_,_,_,_,_,_,_,_,_,_,_,_,_,_,_,_,_,_,EE,rfl,aq,o5 hb hb0,hq21,(fun t=>(hr21 t).later hb)⟩
  case s13=>intro ff gg KK hK;obtain rfl:l13=false:=ff;clear gg;simp only [cond_false];go_simp;exact hK _ _ ⟨_,_,_,_,_,_,_,_,_,_,_,_,_,_,_,_,_,_,_,_,_,_,_,EE,rfl,aq,hb0,hq21,hr21⟩
  case s14=>intro ff gg KK hK;obtain rfl:l14=false:=ff;clear gg;simp only [cond_false];go_simp;exact hK _ _ ⟨_,_,_,_,_,_,_,_,_,_,_,_,_,_,_,_,_,_,_,_,_,_,_,EE,rfl,aq,hb0,hq21,hr21⟩
  case s15=>intro ff gg KK hK;obtain rfl:l14=true:=gg ⟨14,.data⟩ (by simp) rfl;obtain rfl:l15=false:=ff;clear gg;simp only [cond_true,cond_false];go_simp;((go_at_call 140;((with_reducible refine am (Q8 _ _) ?_);intro w' hb)));exact hK _ _ ⟨_,_,_,_,_,_,_,_,_,_,_,_,_,_,_,_,_,_,_,_,_,_,_,EE,rfl,aq,o5 hb hb0,hq21,(fun t=>(hr21 t).later hb)⟩
  case s16=>intro ff gg KK hK;obtain rfl:l15=true:=gg ⟨15,.data⟩ (by simp) rfl;obtain rfl:l16=false:=ff;clear gg;simp only [cond_true,cond_false];go_simp;((go_at_call 147;((with_reducible refine am (H1.out _) ?_);intro w' hb)));exact hK _ _ ⟨_,_,_,_,_,_,_,_,_,_,_,_,_,_,_,_,_,_,_,_,_,_,_,EE,rfl,aq,o5 hb hb0,hq21,(fun t=>(hr21 t).later hb)⟩
  case s17=>intro ff gg KK hK;obtain rfl:l16=true:=gg ⟨16,.data⟩ (by simp) rfl;obtain rfl:l17=false:=ff;clear gg;simp only [cond_true,cond_false];go_simp;exact hK _ _ ⟨_,_,_,_,_,_,_,_,_,_,_,_,_,_,_,_,_,_,_,_,_,_,_,EE,rfl,aq,hb0,hq21,hr21⟩
  case s18=>intro ff gg KK hK;obtain rfl:l16=true:=gg ⟨16,.data⟩ (by simp) rfl;obtain rfl:l18=false:=ff;clear gg;simp only [cond_true,cond_false];go_simp;exact hK _ _ ⟨_,_,_,_,_,_,_,_,_,_,_,_,_,_,_,_,_,_,_,_,_,_,_,EE,rfl,aq,hb0,hq21,hr21⟩
  case s19=>intro ff gg KK hK;obtain rfl:l13=true:=gg ⟨13,.data⟩ (by simp) rfl;obtain rfl:l17=true:=gg ⟨17,.data⟩ (by simp) rfl;obtain rfl:l18=true:=gg ⟨18,.data⟩ (by simp) rfl;obtain rfl:l19=false:=ff;clear gg;simp only [cond_true,cond_false];go_simp;((go_at_call 146;((with_reducible refine am (M9 hl hh B1 _ (b9 hb0 hok)) ?_);intro w' hb)));exact hK _ _ ⟨_,_,_,_,_,_,_,_,_,_,_,_,_,_,_,_,_,_,_,_,_,_,_,EE,rfl,aq,o5 hb hb0,hq21,(fun t=>(hr21 t).later hb)⟩
  case s20=>intro ff gg KK hK;obtain rfl:l0=true:=gg ⟨0,.data⟩ (by simp) rfl;obtain rfl:l12=true:=gg ⟨12,.data⟩ (by simp) rfl;obtain rfl:l19=true:=gg ⟨19,.data⟩ (by simp) rfl;obtain rfl:l20=false:=ff;clear gg;simp only [cond_true,cond_false];go_simp;((go_at_call 141;((with_reducible refine am (eI ml mh hl hh sl sh B1 _ (b9 hb0 hok) M2) ?_);intro w' hb)));exact hK _ _ ⟨_,_,_,_,_,_,_,_,_,_,_,_,_,_,_,_,_,_,_,_,_,_,_,EE,rfl,aq,o5 hb hb0,hq21,(fun t=>(hr21 t).later hb)⟩
  case s21=>intro ff gg KK hK;obtain rfl:l21=false:=ff;clear gg;simp only [cond_false];go_simp;exact hK _ _ ⟨_,_,_,_,_,_,_,_,_,_,_,_,_,_,_,_,_,_,_,_,_,_,_,vv.heap.size,rfl,aq,bw,(fun _=>rfl),(fun _=>L8.alloc hb0 _ _ _ _ _ _ hq21)⟩
  case s22=>intro ff gg KK hK;obtain rfl:l21=true:=gg ⟨21,.data⟩ (by simp) rfl;obtain rfl:l20=true:=gg ⟨20,.data⟩ (by simp) rfl;obtain rfl:l22=false:=ff;clear gg;simp only [cond_true];obtain ⟨m1,m2,fz0,fz1,y0,y1,cz0,cz1,m7⟩:=hr21 rfl;go_simp;exact hK _ _ ⟨_,_,_,_,_,_,_,_,_,_,_,_,_,_,_,_,_,_,_,_,_,_,_,EE,rfl,aq,((hb0.setCell m1 _).setCell m1 _),(fun _=>rfl),(fun _=>(hr21 rfl).store _ _ _)⟩
 case hdone=>
  intro LL aa vv h hd
  obtain ⟨l0,l1,l2,l3,l4,l5,l6,l7,l8,l9,l10,l11,l12,l13,l14,l15,l16,l17,l18,l19,l20,l21,l22,EE,hL,ha,hb0,hq21,hr21⟩:=h
  rw [hL] at hd
  have t0:l0=true:=hd 0 (by decide)
  have t1:l1=true:=hd 1 (by decide)
  have t2:l2=true:=hd 2 (by decide)
  have t3:l3=true:=hd 3 (by decide)
  have t4:l4=true:=hd 4 (by decide)
  have t5:l5=true:=hd 5 (by decide)
  have t6:l6=true:=hd 6 (by decide)
  have t7:l7=true:=hd 7 (by decide)
  have t8:l8=true:=hd 8 (by decide)
  have t9:l9=true:=hd 9 (by decide)
  have t10:l10=true:=hd 10 (by decide)
  have t11:l11=true:=hd 11 (by decide)
  have t12:l12=true:=hd 12 (by decide)
  have t13:l13=true:=hd 13 (by decide)
  have t14:l14=true:=hd 14 (by decide)
  have t15:l15=true:=hd 15 (by decide)
  have t16:l16=true:=hd 16 (by decide)
  have t17:l17=true:=hd 17 (by decide)
  have t18:l18=true:=hd 18 (by decide)
  have t19:l19=true:=hd 19 (by decide)
  have t20:l20=true:=hd 20 (by decide)
  have t21:l21=true:=hd 21 (by decide)
  have t22:l22=true:=hd 22 (by decide)
  clear hd hL hq21
  subst t0 t1 t2 t3 t4 t5 t6 t7 t8 t9 t10 t11 t12 t13 t14 t15 t16 t17 t18 t19 t20 t21 t22
  simp only [cond_true,List.setIfInBounds_toArray,List.set_cons_zero,List.set_cons_succ] at ha
  subst ha
  obtain ⟨EEg,EEl,EEf0,EEf1,y0,y1,EEc0,EEc1,hy⟩:=hr21 rfl
  obtain ⟨rfl,rfl⟩:=hy rfl
  clear hr21
  have a0:=cell_later hb0 a0
  have a1:=cell_later hb0 a1
  have b0:=cell_later hb0 b0
  have b1:=cell_later hb0 b1
  have r0:=cell_later hb0 r0
  have r1:=cell_later hb0 r1
  have rf:∀o,vv.frozen? ⟨w.heap.size+1+1,o,none⟩=false:=fun o=>(hb0.frozen (p:=⟨w.heap.size+1+1,o,none⟩) g2).trans (rf o)
  have hok:=b9 hb0 hok
  have hw1:Below w.heap.size w vv:=Below.trans hw0 (hb0.mono (by omega))
  have g9:=hb0.size
  have g2:w.heap.size+1+1<vv.heap.size:=by omega
  have g1:w.heap.size+1<vv.heap.size:=by omega
  have g0:w.heap.size<vv.heap.size:=by omega
  clear hw0 hb0 g9
  go_upto_region 3 with fail
  refine n9 19 (by kernel_rfl) (by kernel_rfl) ?_
  simp only [List.take_succ_cons,List.take_zero,List.drop_succ_cons,List.drop_zero]
  repeat (first|go_big_quiet_step ((first|(go_at_call 140;(with_reducible exact Calls.regrown_of (Q8 _ _)))|(go_at_call 147;(with_reducible exact Calls.regrown_of (H2.out _)))|(go_at_call 146;(with_reducible exact Calls.regrown_of (M9 h2l h2h B1 _ (u8 hok))))|(go_at_call 148;(with_reducible exact Calls.regrown_of (BV h2l h2h sl sh tl th B1 _ (u8 hok) A)))|(go_at_call 79;(with_reducible exact Calls.regrown_of (AH.out _)))|(go_at_call 145;(with_reducible exact Calls.regrown_of (qC L H B1 _ (u8 hok))))))|quiet_step ((first|(go_at_call 140;(with_reducible exact Calls.regrown_of (Q8 _ _)))|(go_at_call 147;(with_reducible exact Calls.regrown_of (H2.out _)))|(go_at_call 146;(with_reducible exact Calls.regrown_of (M9 h2l h2h B1 _ (u8 hok))))|(go_at_call 148;(with_reducible exact Calls.regrown_of (BV h2l h2h sl sh tl th B1 _ (u8 hok) A)))|(go_at_call 79;(with_reducible exact Calls.regrown_of (AH.out _)))|(go_at_call 145;(with_reducible exact Calls.regrown_of (qC L H B1 _ (u8 hok)))))))
  refine wpQuiet_nil ?_;intro w' hw';have hb:=i8 hw';clear hw';replace hb:=mU;obtain ⟨hcell,hfroz,hz,_⟩:=mB
  go_wp2
  exact bodyPost_ret (v:= .agg #[.int .i64 L,.int .i64 H]) (by first|(simp only [results,Tryz.results61];go_simp;done)|simp [results,Tryz.results61,go_sem, *]) rfl ⟨rfl,bw⟩
set_option maxRecDepth 100000 in
set_option maxHeartbeats 8000000 in
theorem lM (la lo lb lob dl sdl sdh cdl cdh cal cah cbl cbh sal sah sbl sbh yl yh ml mh nl nh kl kh xl xh L H:Int) (B1:Nat) (w:World) (ok:I6 w B1) (q0: -100000000<=lob-lo) (q1:lob-lo<=100000000)
  (SG:Hid (∀w,Calls Tryz.prog 21 #[.int .i64 (lob-lo)] w fun e w'=>e= .returned (.int .i64 dl)/\w=w'))
  (SD:CB 125 #[.agg #[.int .i64 dl,.int .i64 dl]] (.tuple #[.agg #[.int .i64 sdl,.int .i64 sdh],.int .i64 0]))
  (CD:CB 124 #[.agg #[.int .i64 dl,.int .i64 dl]] (.tuple #[.agg #[.int .i64 cdl,.int .i64 cdh],.int .i64 0]))
  (CA:CB 124 #[.agg #[.int .i64 la,.int .i64 la]] (.tuple #[.agg #[.int .i64 cal,.int .i64 cah],.int .i64 0]))
  (CBh:CB 124 #[.agg #[.int .i64 lb,.int .i64 lb]] (.tuple #[.agg #[.int .i64 cbl,.int .i64 cbh],.int .i64 0]))
  (SA:CB 125 #[.agg #[.int .i64 la,.int .i64 la]] (.tuple #[.agg #[.int .i64 sal,.int .i64 sah],.int .i64 0]))
  (SB:CB 125 #[.agg #[.int .i64 lb,.int .i64 lb]] (.tuple #[.agg #[.int .i64 sbl,.int .i64 sbh],.int .i64 0]))
  (MY:CB 150 #[.agg #[.int .i64 sdl,.int .i64 sdh],.agg #[.int .i64 cbl,.int .i64 cbh]] (.tuple #[.agg #[.int .i64 yl,.int .i64 yh],.int .i64 0]))
  (M1:CB 150 #[.agg #[.int .i64 cal,.int .i64 cah],.agg #[.int .i64 sbl,.int .i64 sbh]] (.tuple #[.agg #[.int .i64 ml,.int .i64 mh],.int .i64 0]))
  (M2:CB 150 #[.agg #[.int .i64 sal,.int .i64 sah],.agg #[.int .i64 cbl,.int .i64 cbh]] (.tuple #[.agg #[.int .i64 nl,.int .i64 nh],.int .i64 0]))
  (M3:CB 150 #[.agg #[.int .i64 nl,.int .i64 nh],.agg #[.int .i64 cdl,.int .i64 cdh]] (.tuple #[.agg #[.int .i64 kl,.int .i64 kh],.int .i64 0]))
  (SX:CB 224 #[.agg #[.int .i64 ml,.int .i64 mh],.agg #[.int .i64 kl,.int .i64 kh]] (.tuple #[.agg #[.int .i64 xl,.int .i64 xh],.int .i64 0]))
  (BR:CB 47 #[.agg #[.int .i64 yl,.int .i64 yh],.agg #[.int .i64 xl,.int .i64 xh]] (.tuple #[.agg #[.int .i64 L,.int .i64 H],.int .i64 0])):
  Calls Tryz.prog 60 #[.pointer (some ⟨B1,0,none⟩),.agg #[.int .i64 la,.int .i64 lo],.agg #[.int .i64 lb,.int .i64 lob]] w fun e w'=>e= .returned (.agg #[.int .i64 L,.int .i64 H])/\Below w.heap.size w w':=by
 have hB:=C6 ok
 go_enter Tryz.func60,Tryz.ntmps60
 go_upto_region 2 with (first|(go_at_call 21;((with_reducible refine am (SG.out _) ?_);rintro w' rfl))|(go_at_call 140;((with_reducible refine am (Q8 _ _) ?_);intro w' hb);replace hb:=mU;obtain ⟨hcell,hfroz,hz,z6,z7,z8,z9,_⟩:=oH;obtain ⟨w1,rfl⟩:=nm w'))
 (refine m9 ?_;intro w' hb;replace hb:=mU;obtain ⟨hcell,hfroz,hz,z6,z7,z8,z9,_⟩:=oH)
 have hw0:Below w.heap.size w w':=bw
 have a0:=cq w' w.heap.size 0 la
 have a1:=cq w' w.heap.size 1 lo
 have b0:=cq w' (w.heap.size+1) 0 lb
 have b1:=cq w' (w.heap.size+1) 1 lob
 have d0:=cq w' w1.heap.size 0 dl
 have d1:=cq w' w1.heap.size 1 dl
 have r0:=cq w' (w.heap.size+1+1) 0 0
 have r1:=cq w' (w.heap.size+1+1) 1 0
 have rf:∀o,w'.frozen? ⟨w.heap.size+1+1,o,none⟩=false:=by intro o;simp [go_sem, *]
 have hok:=b9 hw0 ok
 have hz1:w.heap.size+1+1<w1.heap.size:=by omega
 clear hcell hfroz hz hb
 obtain ⟨V0,rfl⟩:=nm w'
 have gD:w1.heap.size<V0.heap.size:=World.block_lt_of_cell? _ _ d0
 generalize w1.heap.size=BD at*
 have g2:w.heap.size+1+1<V0.heap.size:=World.block_lt_of_cell? _ _ r0
 have g1:w.heap.size+1<V0.heap.size:=by omega
 have g0:w.heap.size<V0.heap.size:=by omega
 refine B8 (fun a0 LL aa vv=>∃(l0 l1 l2 l3 l4 l5 l6 l7 l8 l9 l10 l11:Bool) (EY:Nat),LL= #[l0,l1,l2,l3,l4,l5,l6,l7,l8,l9,l10,l11]/\aa={a0 with tmps:=(((((((((((a0.tmps.setIfInBounds 17 (cond l0 (.pointer (some ⟨B1,0,none⟩)) (undef))).setIfInBounds 18 (cond l1 (.pointer (some ⟨B1,0,none⟩)) (undef))).setIfInBounds 19 (cond l2 (.agg #[.int .i64 dl,.int .i64 dl]) (undef))).setIfInBounds 20 (cond l3 (.agg #[.int .i64 sdl,.int .i64 sdh]) (undef))).setIfInBounds 21 (cond l4 (.pointer (some ⟨B1,0,none⟩)) (undef))).setIfInBounds 22 (cond l5 (.pointer (some ⟨w.heap.size+1,0,none⟩)) (undef))).setIfInBounds 23 (cond l6 (.int .i64 lb) (undef))).setIfInBounds 24 (cond l7 (.agg #[.int .i64 lb,.int .i64 lb]) (undef))).setIfInBounds 25 (cond l8 (.agg #[.int .i64 cbl,.int .i64 cbh]) (undef))).setIfInBounds 26 (cond l9 (.agg #[.int .i64 yl,.int .i64 yh]) (undef))).setIfInBounds 8 (cond l10 (.pointer (some ⟨EY,0,none⟩)) (undef)))}/\Below V0.heap.size V0 vv/\(l11=true->l10=true)/\(l10=true->L8 V0 vv EY l11 (yl) (yh))) (by kernel_rfl) (by kernel_rfl) ?h0 ?hsize ?hdone ?hstep
 case h0=>
  refine ⟨false,false,false,false,false,false,false,false,false,false,false,false,0,rfl,?_,bv,(fun h=>by cases h),(fun h=>by cases h)⟩
  simp only [cond_false,List.setIfInBounds_toArray,List.set_cons_zero,List.set_cons_succ]
 case hsize=>
  intro LL aa vv h
  obtain ⟨l0,l1,l2,l3,l4,l5,l6,l7,l8,l9,l10,l11,EY,hL,_⟩:=h
  rw [hL]
  rfl
 case hstep=>
  intro LL aa vv h
  obtain ⟨l0,l1,l2,l3,l4,l5,l6,l7,l8,l9,l10,l11,EY,hL,ha,hb0,hq10,hr10⟩:=h
  simp only [List.setIfInBounds_toArray,List.set_cons_zero,List.set_cons_succ] at ha
  subst hL
  subst ha
  refine ⟨?s0,?s1,?s2,?s3,?s4,?s5,?s6,?s7,?s8,?s9,?s10,?s11,trivial⟩
  case s0=>intro ff gg KK hK;obtain rfl:l0=false:=ff;clear gg;simp only [cond_false];go_simp;exact hK _ _ ⟨_,_,_,_,_,_,_,_,_,_,_,_,EY,rfl,aq,hb0,hq10,hr10⟩
  case s1=>intro ff gg KK hK;obtain rfl:l1=false:=ff;clear gg;simp only [cond_false];go_simp;exact hK _ _ ⟨_,_,_,_,_,_,_,_,_,_,_,_,EY,rfl,aq,hb0,hq10,hr10⟩
  case s2=>intro ff gg KK hK;obtain rfl:l2=false:=ff;clear gg;simp only [cond_false];have cc0:vv.cell? ⟨BD,0,none⟩=some (.int .i64 dl):=cell_later hb0 d0;have cc1:vv.cell? ⟨BD,1,none⟩=some (.int .i64 dl):=cell_later hb0 d1;go_simp;exact hK _ _ ⟨_,_,_,_,_,_,_,_,_,_,_,_,EY,rfl,aq,hb0,hq10,hr10⟩
  case s3=>intro ff gg KK hK;obtain rfl:l1=true:=gg ⟨1,.data⟩ (by simp) rfl;obtain rfl:l2=true:=gg ⟨2,.data⟩ (by simp) rfl;obtain rfl:l3=false:=ff;clear gg;simp only [cond_true,cond_false];go_simp;((go_at_call 142;((with_reducible refine am (pJ dl dl sdl sdh B1 _ (b9 hb0 hok) SD) ?_);intro w' hb)));exact hK _ _ ⟨_,_,_,_,_,_,_,_,_,_,_,_,EY,rfl,aq,o5 hb hb0,hq10,(fun t=>(hr10 t).later hb)⟩
  case s4=>intro ff gg KK hK;obtain rfl:l4=false:=ff;clear gg;simp only [cond_false];go_simp;exact hK _ _ ⟨_,_,_,_,_,_,_,_,_,_,_,_,EY,rfl,aq,hb0,hq10,hr10⟩
  case s5=>intro ff gg KK hK;obtain rfl:l5=false:=ff;clear gg;simp only [cond_false];go_simp;exact hK _ _ ⟨_,_,_,_,_,_,_,_,_,_,_,_,EY,rfl,aq,hb0,hq10,hr10⟩
  case s6=>intro ff gg KK hK;obtain rfl:l5=true:=gg ⟨5,.data⟩ (by simp) rfl;obtain rfl:l6=false:=ff;clear gg;simp only [cond_true,cond_false];have cc0:vv.cell? ⟨w.heap.size+1,0,none⟩=some (.int .i64 lb):=cell_later hb0 b0;go_simp;exact hK _ _ ⟨_,_,_,_,_,_,_,_,_,_,_,_,EY,rfl,aq,hb0,hq10,hr10⟩
  case s7=>intro ff gg KK hK;obtain rfl:l6=true:=gg ⟨6,.data⟩ (by simp) rfl;obtain rfl:l7=false:=ff;clear gg;simp only [cond_true,cond_false];go_simp;((go_at_call 140;((with_reducible refine am (Q8 _ _) ?_);intro w' hb)));exact hK _ _ ⟨_,_,_,_,_,_,_,_,_,_,_,_,EY,rfl,aq,o5 hb hb0,hq10,(fun t=>(hr10 t).later hb)⟩
  case s8=>intro ff gg KK hK;obtain rfl:l4=true:=gg ⟨4,.data⟩ (by simp) rfl;obtain rfl:l7=true:=gg ⟨7,.data⟩ (by simp) rfl;obtain rfl:l8=false:=ff;clear gg;simp only [cond_true,cond_false];go_simp;((go_at_call 143;((with_reducible refine am (eG lb lb cbl cbh B1 _ (b9 hb0 hok) CBh) ?_);intro w' hb)));exact hK _ _ ⟨_,_,_,_,_,_,_,_,_,_,_,_,EY,rfl,aq,o5 hb hb0,hq10,(fun t=>(hr10 t).later hb)⟩
  case s9=>intro ff gg KK hK;obtain rfl:l0=true:=gg ⟨0,.data⟩ (by simp) rfl;obtain rfl:l3=true:=gg ⟨3,.data⟩ (by simp) rfl;obtain rfl:l8=true:=gg ⟨8,.data⟩ (by simp) rfl;obtain rfl:l9=false:=ff;clear gg;simp only [cond_true,cond_false];go_simp;((go_at_call 141;((with_reducible refine am (eI sdl sdh cbl cbh yl yh B1 _ (b9 hb0 hok) MY) ?_);intro w' hb)));exact hK _ _ ⟨_,_,_,_,_,_,_,_,_,_,_,_,EY,rfl,aq,o5 hb hb0,hq10,(fun t=>(hr10 t).later hb)⟩
  case s10=>intro ff gg KK hK;obtain rfl:l10=false:=ff;clear gg;simp only [cond_false];go_simp;exact hK _ _ ⟨_,_,_,_,_,_,_,_,_,_,_,_,vv.heap.size,rfl,aq,bw,(fun _=>rfl),(fun _=>L8.alloc hb0 _ _ _ _ _ _ hq10)⟩
  case s11=>intro ff gg KK hK;obtain rfl:l10=true:=gg ⟨10,.data⟩ (by simp) rfl;obtain rfl:l9=true:=gg ⟨9,.data⟩ (by simp) rfl;obtain rfl:l11=false:=ff;clear gg;simp only [cond_true];obtain ⟨m1,m2,fz0,fz1,y0,y1,cz0,cz1,m7⟩:=hr10 rfl;go_simp;exact hK _ _ ⟨_,_,_,_,_,_,_,_,_,_,_,_,EY,rfl,aq,((hb0.setCell m1 _).setCell m1 _),(fun _=>rfl),(fun _=>(hr10 rfl).store _ _ _)⟩
 case hdone=>
  intro LL aa vv h hd
  obtain ⟨l0,l1,l2,l3,l4,l5,l6,l7,l8,l9,l10,l11,EY,hL,ha,hb0,hq10,hr10⟩:=h
  rw [hL] at hd
  have t0:l0=true:=hd 0 (by decide)
  have t1:l1=true:=hd 1 (by decide)
  have t2:l2=true:=hd 2 (by decide)
  have t3:l3=true:=hd 3 (by decide)
  have t4:l4=true:=hd 4 (by decide)
  have t5:l5=true:=hd 5 (by decide)
  have t6:l6=true:=hd 6 (by decide)
  have t7:l7=true:=hd 7 (by decide)
  have t8:l8=true:=hd 8 (by decide)
  have t9:l9=true:=hd 9 (by decide)
  have t10:l10=true:=hd 10 (by decide)
  have t11:l11=true:=hd 11 (by decide)
  clear hd hL hq10
  subst t0 t1 t2 t3 t4 t5 t6 t7 t8 t9 t10 t11
  simp only [cond_true,List.setIfInBounds_toArray,List.set_cons_zero,List.set_cons_succ] at ha
  subst ha
  obtain ⟨EYg,EYl,EYf0,EYf1,y0,y1,EYc0,EYc1,hy⟩:=hr10 rfl
  obtain ⟨rfl,rfl⟩:=hy rfl
  clear hr10
  have a0:=cell_later hb0 a0
  have a1:=cell_later hb0 a1
  have b0:=cell_later hb0 b0
  have b1:=cell_later hb0 b1
  have d0:=cell_later hb0 d0
  have d1:=cell_later hb0 d1
  have r0:=cell_later hb0 r0
  have r1:=cell_later hb0 r1
  have rf:∀o,vv.frozen? ⟨w.heap.size+1+1,o,none⟩=false:=fun o=>(hb0.frozen (p:=⟨w.heap.size+1+1,o,none⟩) g2).trans (rf o)
  have hok:=b9 hb0 hok
  have hw1:Below w.heap.size w vv:=Below.trans hw0 (hb0.mono (by omega))
  have g9:=hb0.size
  have g2:w.heap.size+1+1<vv.heap.size:=by omega
  have g1:w.heap.size+1<vv.heap.size:=by omega
  have g0:w.heap.size<vv.heap.size:=by omega
  have gD:BD<vv.heap.size:=by omega
  clear hw0 hb0 g9
  obtain ⟨V1,rfl⟩:∃v,v=vv:=⟨_,rfl⟩
  go_upto_region 3 with fail
  refine B8 (fun a0 LL aa vx=>∃(l0 l1 l2 l3 l4 l5 l6 l7 l8 l9 l10 l11 l12 l13 l14 l15 l16 l17 l18 l19 l20 l21 l22 l23 l24 l25 l26 l27 l28 l29 l30 l31 l32:Bool) (EX:Nat),LL= #[l0,l1,l2,l3,l4,l5,l6,l7,l8,l9,l10,l11,l12,l13,l14,l15,l16,l17,l18,l19,l20,l21,l22,l23,l24,l25,l26,l27,l28,l29,l30,l31,l32]/\aa={a0 with tmps:=((((((((((((((((((((((((((((((((a0.tmps.setIfInBounds 27 (cond l0 (.pointer (some ⟨B1,0,none⟩)) (undef))).setIfInBounds 28 (cond l1 (.pointer (some ⟨B1,0,none⟩)) (undef))).setIfInBounds 29 (cond l2 (.pointer (some ⟨B1,0,none⟩)) (undef))).setIfInBounds 30 (cond l3 (.pointer (some ⟨w.heap.size,0,none⟩)) (undef))).setIfInBounds 31 (cond l4 (.int .i64 la) (undef))).setIfInBounds 32 (cond l5 (.agg #[.int .i64 la,.int .i64 la]) (undef))).setIfInBounds 33 (cond l6 (.agg #[.int .i64 cal,.int .i64 cah]) (undef))).setIfInBounds 34 (cond l7 (.pointer (some ⟨B1,0,none⟩)) (undef))).setIfInBounds 35 (cond l8 (.pointer (some ⟨w.heap.size+1,0,none⟩)) (undef))).setIfInBounds 36 (cond l9 (.int .i64 lb) (undef))).setIfInBounds 37 (cond l10 (.agg #[.int .i64 lb,.int .i64 lb]) (undef))).setIfInBounds 38 (cond l11 (.agg #[.int .i64 sbl,.int .i64 sbh]) (undef))).setIfInBounds 39 (cond l12 (.agg #[.int .i64 ml,.int .i64 mh]) (undef))).setIfInBounds 40 (cond l13 (.pointer (some ⟨B1,0,none⟩)) (undef))).setIfInBounds 41 (cond l14 (.pointer (some ⟨B1,0,none⟩)) (undef))).setIfInBounds 42 (cond l15 (.pointer (some ⟨B1,0,none⟩)) (undef))).setIfInBounds 43 (cond l16 (.pointer (some ⟨w.heap.size,0,none⟩)) (undef))).setIfInBounds 44 (cond l17 (.int .i64 la) (undef))).setIfInBounds 45 (cond l18 (.agg #[.int .i64 la,.int .i64 la]) (undef))).setIfInBounds 46 (cond l19 (.agg #[.int .i64 sal,.int .i64 sah]) (undef))).setIfInBounds 47 (cond l20 (.pointer (some ⟨B1,0,none⟩)) (undef))).setIfInBounds 48 (cond l21 (.pointer (some ⟨w.heap.size+1,0,none⟩)) (undef))).setIfInBounds 49 (cond l22 (.int .i64 lb) (undef))).setIfInBounds 50 (cond l23 (.agg #[.int .i64 lb,.int .i64 lb]) (undef))).setIfInBounds 51 (cond l24 (.agg #[.int .i64 cbl,.int .i64 cbh]) (undef))).setIfInBounds 52 (cond l25 (.agg #[.int .i64 nl,.int .i64 nh]) (undef))).setIfInBounds 53 (cond l26 (.pointer (some ⟨B1,0,none⟩)) (undef))).setIfInBounds 54 (cond l27 (.agg #[.int .i64 dl,.int .i64 dl]) (undef))).setIfInBounds 55 (cond l28 (.agg #[.int .i64 cdl,.int .i64 cdh]) (undef))).setIfInBounds 56 (cond l29 (.agg #[.int .i64 kl,.int .i64 kh]) (undef))).setIfInBounds 57 (cond l30 (.agg #[.int .i64 xl,.int .i64 xh]) (undef))).setIfInBounds 9 (cond l31 (.pointer (some ⟨EX,0,none⟩)) (undef)))}/\Below V1.heap.size V1 vx/\(l32=true->l31=true)/\(l31=true->L8 V1 vx EX l32 (xl) (xh))) (by kernel_rfl) (by kernel_rfl) ?h0 ?hsize ?hdone ?hstep
  case h0=>
   refine ⟨false,false,false,false,false,false,false,false,false,false,false,false,false,false,false,false,false,false,false,false,false,false,false,false,false,false,false,false,false,false,false,false,false,0,rfl,?_,bv,(fun h=>by cases h),(fun h=>by cases h)⟩
   simp only [cond_false,List.setIfInBounds_toArray,List.set_cons_zero,List.set_cons_succ]
  case hsize=>
   intro LL aa vx h
   obtain ⟨l0,l1,l2,l3,l4,l5,l6,l7,l8,l9,l10,l11,l12,l13,l14,l15,l16,l17,l18,l19,l20,l21,l22,l23,l24,l25,l26,l27,l28,l29,l30,l31,l32,EX,hL,_⟩:=h
   rw [hL]
   rfl
  case hstep=>
   intro LL aa vx h
   obtain ⟨l0,l1,l2,l3,l4,l5,l6,l7,l8,l9,l10,l11,l12,l13,l14,l15,l16,l17,l18,l19,l20,l21,l22,l23,l24,l25,l26,l27,l28,l29,l30,l31,l32,EX,hL,ha,hb0,hq31,hr31⟩:=h
   simp only [List.setIfInBounds_toArray,List.set_cons_zero,List.set_cons_succ] at ha
   subst hL
   subst ha
   refine ⟨?s0,?s1,?s2,?s3,?s4,?s5,?s6,?s7,?s8,?s9,?s10,?s11,?s12,?s13,?s14,?s15,?s16,?s17,?s18,?s19,?s20,?s21,?s22,?s23,?s24,?s25,?s26,?s27,?s28,?s29,?s30,?s31,?s32,trivial⟩
   case s0=>intro ff gg KK hK;obtain rfl:l0=false:=ff;clear gg;simp only [cond_false];go_simp;exact hK _ _ ⟨_,_,_,_,_,_,_,_,_,_,_,_,_,_,_,_,_,_,_,_,_,_,_,_,_,_,_,_,_,_,_,_,_,EX,rfl,aq,hb0,hq31,hr31⟩
   case s1=>intro ff gg KK hK;obtain rfl:l1=false:=ff;clear gg;simp only [cond_false];go_simp;exact hK _ _ ⟨_,_,_,_,_,_,_,_,_,_,_,_,_,_,_,_,_,_,_,_,_,_,_,_,_,_,_,_,_,_,_,_,_,EX,rfl,aq,hb0,hq31,hr31⟩
   case s2=>intro ff gg KK hK;obtain rfl:l2=false:=ff;clear gg;simp only [cond_false];go_simp;exact hK _ _ ⟨_,_,_,_,_,_,_,_,_,_,_,_,_,_,_,_,_,_,_,_,_,_,_,_,_,_,_,_,_,_,_,_,_,EX,rfl,aq,hb0,hq31,hr31⟩
   case s3=>intro ff gg KK hK;obtain rfl:l3=false:=ff;clear gg;simp only [cond_false];go_simp;exact hK _ _ ⟨_,_,_,_,_,_,_,_,_,_,_,_,_,_,_,_,_,_,_,_,_,_,_,_,_,_,_,_,_,_,_,_,_,EX,rfl,aq,hb0,hq31,hr31⟩
   case s4=>intro ff gg KK hK;obtain rfl:l3=true:=gg ⟨3,.data⟩ (by simp) rfl;obtain rfl:l4=false:=ff;clear gg;simp only [cond_true,cond_false];have cc0:vx.cell? ⟨w.heap.size,0,none⟩=some (.int .i64 la):=cell_later hb0 a0;go_simp;exact hK _ _ ⟨_,_,_,_,_,_,_,_,_,_,_,_,_,_,_,_,_,_,_,_,_,_,_,_,_,_,_,_,_,_,_,_,_,EX,rfl,aq,hb0,hq31,hr31⟩
   case s5=>intro ff gg KK hK;obtain rfl:l4=true:=gg ⟨4,.data⟩ (by simp) rfl;obtain rfl:l5=false:=ff;clear gg;simp only [cond_true,cond_false];go_simp;((go_at_call 140;((with_reducible refine am (Q8 _ _) ?_);intro w' hb)));exact hK _ _ ⟨_,_,_,_,_,_,_,_,_,_,_,_,_,_,_,_,_,_,_,_,_,_,_,_,_,_,_,_,_,_,_,_,_,EX,rfl,aq,o5 hb hb0,hq31,(fun t=>(hr31 t).later hb)⟩
   case s6=>intro ff gg KK hK;obtain rfl:l2=true:=gg ⟨2,.data⟩ (by simp) rfl;obtain rfl:l5=true:=gg ⟨5,.data⟩ (by simp) rfl;obtain rfl:l6=false:=ff;clear gg;simp only [cond_true,cond_false];go_simp;((go_at_call 143;((with_reducible refine am (eG la la cal cah B1 _ (b9 hb0 hok) CA) ?_);intro w' hb)));exact hK _ _ ⟨_,_,_,_,_,_,_,_,_,_,_,_,_,_,_,_,_,_,_,_,_,_,_,_,_,_,_,_,_,_,_,_,_,EX,rfl,aq,o5 hb hb0,hq31,(fun t=>(hr31 t).later hb)⟩
   case s7=>intro ff gg KK hK;obtain rfl:l7=false:=ff;clear gg;simp only [cond_false];go_simp;exact hK _ _ ⟨_,_,_,_,_,_,_,_,_,_,_,_,_,_,_,_,_,_,_,_,_,_,_,_,_,_,_,_,_,_,_,_,_,EX,rfl,aq,hb0,hq31,hr31⟩
   case s8=>intro ff gg KK hK;obtain rfl:l8=false:=ff;clear gg;simp only [cond_false];go_simp;exact hK _ _ ⟨_,_,_,_,_,_,_,_,_,_,_,_,_,_,_,_,_,_,_,_,_,_,_,_,_,_,_,_,_,_,_,_,_,EX,rfl,aq,hb0,hq31,hr31⟩
   case s9=>intro ff gg KK hK;obtain rfl:l8=true:=gg ⟨8,.data⟩ (by simp) rfl;obtain rfl:l9=false:=ff;clear gg;simp only [cond_true,cond_false];have cc0:vx.cell? ⟨w.heap.size+1,0,none⟩=some (.int .i64 lb):=cell_later hb0 b0;go_simp;exact hK _ _ ⟨_,_,_,_,_,_,_,_,_,_,_,_,_,_,_,_,_,_,_,_,_,_,_,_,_,_,_,_,_,_,_,_,_,EX,rfl,aq,hb0,hq31,hr31⟩
   case s10=>intro ff gg KK hK;obtain rfl:l9=true:=gg ⟨9,.data⟩ (by simp) rfl;obtain rfl:l10=false:=ff;clear gg;simp only [cond_true,cond_false];go_simp;((go_at_call 140;((with_reducible refine am (Q8 _ _) ?_);intro w' hb)));exact hK _ _ ⟨_,_,_,_,_,_,_,_,_,_,_,_,_,_,_,_,_,_,_,_,_,_,_,_,_,_,_,_,_,_,_,_,_,EX,rfl,aq,o5 hb hb0,hq31,(fun t=>(hr31 t).later hb)⟩
   case s11=>intro ff gg KK hK;obtain rfl:l7=true:=gg ⟨7,.data⟩ (by simp) rfl;obtain rfl:l10=true:=gg ⟨10,.data⟩ (by simp) rfl;obtain rfl:l11=false:=ff;clear gg;simp only [cond_true,cond_false];go_simp;((go_at_call 142;((with_reducible refine am (pJ lb lb sbl sbh B1 _ (b9 hb0 hok) SB) ?_);intro w' hb)));exact hK _ _ ⟨_,_,_,_,_,_,_,_,_,_,_,_,_,_,_,_,_,_,_,_,_,_,_,_,_,_,_,_,_,_,_,_,_,EX,rfl,aq,o5 hb hb0,hq31,(fun t=>(hr31 t).later hb)⟩
   case s12=>intro ff gg KK hK;obtain rfl:l1=true:=gg ⟨1,.data⟩ (by simp) rfl;obtain rfl:l6=true:=gg ⟨6,.data⟩ (by simp) rfl;obtain rfl:l11=true:=gg ⟨11,.data⟩ (by simp) rfl;obtain rfl:l12=false:=ff;clear gg;simp only [cond_true,cond_false];go_simp;((go_at_call 141;((with_reducible refine am (eI cal cah sbl sbh ml mh B1 _ (b9 hb0 hok) M1) ?_);intro w' hb)));exact hK _ _ ⟨_,_,_,_,_,_,_,_,_,_,_,_,_,_,_,_,_,_,_,_,_,_,_,_,_,_,_,_,_,_,_,_,_,EX,rfl,aq,o5 hb hb0,hq31,(fun t=>(hr31 t).later hb)⟩
   case s13=>intro ff gg KK hK;obtain rfl:l13=false:=ff;clear gg;simp only [cond_false];go_simp;exact hK _ _ ⟨_,_,_,_,_,_,_,_,_,_,_,_,_,_,_,_,_,_,_,_,_,_,_,_,_,_,_,_,_,_,_,_,_,EX,rfl,aq,hb0,hq31,hr31⟩
   case s14=>intro ff gg KK hK;obtain rfl:l14=false:=ff;clear gg;simp only [cond_false];go_simp;exact hK _ _ ⟨_,_,_,_,_,_,_,_,_,_,_,_,_,_,_,_,_,_,_,_,_,_,_,_,_,_,_,_,_,_,_,_,_,EX,rfl,aq,hb0,hq31,hr31⟩
   case s15=>intro ff gg KK hK;obtain rfl:l15=false:=ff;clear gg;simp only [cond_false];go_simp;exact hK _ _ ⟨_,_,_,_,_,_,_,_,_,_,_,_,_,_,_,_,_,_,_,_,_,_,_,_,_,_,_,_,_,_,_,_,_,EX,rfl,aq,hb0,hq31,hr31⟩
   case s16=>intro ff gg KK hK;obtain rfl:l16=false:=ff;clear gg;simp only [cond_false];go_simp;exact hK _ _ ⟨_,_,_,_,_,_,_,_,_,_,_,_,_,_,_,_,_,_,_,_,_,_,_,_,_,_,_,_,_,_,_,_,_,EX,rfl,aq,hb0,hq31,hr31⟩
   case s17=>intro ff gg KK hK;obtain rfl:l16=true:=gg ⟨16,.data⟩ (by simp) rfl;obtain rfl:l17=false:=ff;clear gg;simp only [cond_true,cond_false];have cc0:vx.cell? ⟨w.heap.size,0,none⟩=some (.int .i64 la):=cell_later hb0 a0;go_simp;exact hK _ _ ⟨_,_,_,_,_,_,_,_,_,_,_,_,_,_,_,_,_,_,_,_,_,_,_,_,_,_,_,_,_,_,_,_,_,EX,rfl,aq,hb0,hq31,hr31⟩
   case s18=>intro ff gg KK hK;obtain rfl:l17=true:=gg ⟨17,.data⟩ (by simp) rfl;obtain rfl:l18=false:=ff;clear gg;simp only [cond_true,cond_false];go_simp;((go_at_call 140;((with_reducible refine am (Q8 _ _) ?_);intro w' hb)));exact hK _ _ ⟨_,_,_,_,_,_,_,_,_,_,_,_,_,_,_,_,_,_,_,_,_,_,_,_,_,_,_,_,_,_,_,_,_,EX,rfl,aq,o5 hb hb0,hq31,(fun t=>(hr31 t).later hb)⟩
   case s19=>intro ff gg KK hK;obtain rfl:l15=true:=gg ⟨15,.data⟩ (by simp) rfl;obtain rfl:l18=true:=gg ⟨18,.data⟩ (by simp) rfl;obtain rfl:l19=false:=ff;clear gg;simp only [cond_true,cond_false];go_simp;((go_at_call 142;((with_reducible refine am (pJ la la sal sah B1 _ (b9 hb0 hok) SA) ?_);intro w' hb)));exact hK _ _ ⟨_,_,_,_,_,_,_,_,_,_,_,_,_,_,_,_,_,_,_,_,_,_,_,_,_,_,_,_,_,_,_,_,_,EX,rfl,aq,o5 hb hb0,hq31,(fun t=>(hr31 t).later hb)⟩
   case s20=>intro ff gg KK hK;obtain rfl:l20=false:=ff;clear gg;simp only [cond_false];go_simp;exact hK _ _ ⟨_,_,_,_,_,_,_,_,_,_,_,_,_,_,_,_,_,_,_,_,_,_,_,_,_,_,_,_,_,_,_,_,_,EX,rfl,aq,hb0,hq31,hr31⟩
   case s21=>intro ff gg KK hK;obtain rfl:l21=false:=ff;clear gg;simp only [cond_false];go_simp;exact hK _ _ ⟨_,_,_,_,_,_,_,_,_,_,_,_,_,_,_,_,_,_,_,_,_,_,_,_,_,_,_,_,_,_,_,_,_,EX,rfl,aq,hb0,hq31,hr31⟩
   case s22=>intro ff gg KK hK;obtain rfl:l21=true:=gg ⟨21,.data⟩ (by simp) rfl;obtain rfl:l22=false:=ff;clear gg;simp only [cond_true,cond_false];have cc0:vx.cell? ⟨w.heap.size+1,0,none⟩=some (.int .i64 lb):=cell_later hb0 b0;go_simp;exact hK _ _ ⟨_,_,_,_,_,_,_,_,_,_,_,_,_,_,_,_,_,_,_,_,_,_,_,_,_,_,_,_,_,_,_,_,_,EX,rfl,aq,hb0,hq31,hr31⟩
   case s23=>intro ff gg KK hK;obtain rfl:l22=true:=gg ⟨22,.data⟩ (by simp) rfl;obtain rfl:l23=false:=ff;clear gg;simp only [cond_true,cond_false];go_simp;((go_at_call 140;((with_reducible refine am (Q8 _ _) ?_);intro w' hb)));exact hK _ _ ⟨_,_,_,_,_,_,_,_,_,_,_,_,_,_,_,_,_,_,_,_,_,_,_,_,_,_,_,_,_,_,_,_,_,EX,rfl,aq,o5 hb hb0,hq31,(fun t=>(hr31 t).later hb)⟩
   case s24=>intro ff gg KK hK;obtain rfl:l20=true:=gg ⟨20,.data⟩ (by simp) rfl;obtain rfl:l23=true:=gg ⟨23,.data⟩ (by simp) rfl;obtain rfl:l24=false:=ff;clear gg;simp only [cond_true,cond_false];go_simp;((go_at_call 143;((with_reducible refine am (eG lb lb cbl cbh B1 _ (b9 hb0 hok) CBh) ?_);intro w' hb)));exact hK _ _ ⟨_,_,_,_,_,_,_,_,_,_,_,_,_,_,_,_,_,_,_,_,_,_,_,_,_,_,_,_,_,_,_,_,_,EX,rfl,aq,o5 hb hb0,hq31,(fun t=>(hr31 t).later hb)⟩
   case s25=>intro ff gg KK hK;obtain rfl:l14=true:=gg ⟨14,.data⟩ (by simp) rfl;obtain rfl:l19=true:=gg ⟨19,.data⟩ (by simp) rfl;obtain rfl:l24=true:=gg ⟨24,.data⟩ (by simp) rfl;obtain rfl:l25=false:=ff;clear gg;simp only [cond_true,cond_false];go_simp;((go_at_call 141;((with_reducible refine am (eI sal sah cbl cbh nl nh B1 _ (b9 hb0 hok) M2) ?_);intro w' hb)));exact hK _ _ ⟨_,_,_,_,_,_,_,_,_,_,_,_,_,_,_,_,_,_,_,_,_,_,_,_,_,_,_,_,_,_,_,_,_,EX,rfl,aq,o5 hb hb0,hq31,(fun t=>(hr31 t).later hb)⟩
   case s26=>intro ff gg KK hK;obtain rfl:l26=false:=ff;clear gg;simp only [cond_false];go_simp;exact hK _ _ ⟨_,_,_,_,_,_,_,_,_,_,_,_,_,_,_,_,_,_,_,_,_,_,_,_,_,_,_,_,_,_,_,_,_,EX,rfl,aq,hb0,hq31,hr31⟩
   case s27=>intro ff gg KK hK;obtain rfl:l27=false:=ff;clear gg;simp only [cond_false];have cc0:vx.cell? ⟨BD,0,none⟩=some (.int .i64 dl):=cell_later hb0 d0;have cc1:vx.cell? ⟨BD,1,none⟩=some (.int .i64 dl):=cell_later hb0 d1;go_simp;exact hK _ _ ⟨_,_,_,_,_,_,_,_,_,_,_,_,_,_,_,_,_,_,_,_,_,_,_,_,_,_,_,_,_,_,_,_,_,EX,rfl,aq,hb0,hq31,hr31⟩
   case s28=>intro ff gg KK hK;obtain rfl:l26=true:=gg ⟨26,.data⟩ (by simp) rfl;obtain rfl:l27=true:=gg ⟨27,.data⟩ (by simp) rfl;obtain rfl:l28=false:=ff;clear gg;simp only [cond_true,cond_false];go_simp;((go_at_call 143;((with_reducible refine am (eG dl dl cdl cdh B1 _ (b9 hb0 hok) CD) ?_);intro w' hb)));exact hK _ _ ⟨_,_,_,_,_,_,_,_,_,_,_,_,_,_,_,_,_,_,_,_,_,_,_,_,_,_,_,_,_,_,_,_,_,EX,rfl,aq,o5 hb hb0,hq31,(fun t=>(hr31 t).later hb)⟩
   case s29=>intro ff gg KK hK;obtain rfl:l13=true:=gg ⟨13,.data⟩ (by simp) rfl;obtain rfl:l25=true:=gg ⟨25,.data⟩ (by simp) rfl;obtain rfl:l28=true:=gg ⟨28,.data⟩ (by simp) rfl;obtain rfl:l29=false:=ff;clear gg;simp only [cond_true,cond_false];go_simp;((go_at_call 141;((with_reducible refine am (eI nl nh cdl cdh kl kh B1 _ (b9 hb0 hok) M3) ?_);intro w' hb)));exact hK _ _ ⟨_,_,_,_,_,_,_,_,_,_,_,_,_,_,_,_,_,_,_,_,_,_,_,_,_,_,_,_,_,_,_,_,_,EX,rfl,aq,o5 hb hb0,hq31,(fun t=>(hr31 t).later hb)⟩
   case s30=>intro ff gg KK hK;obtain rfl:l0=true:=gg ⟨0,.data⟩ (by simp) rfl;obtain rfl:l12=true:=gg ⟨12,.data⟩ (by simp) rfl;obtain rfl:l29=true:=gg ⟨29,.data⟩ (by simp) rfl;obtain rfl:l30=false:=ff;clear gg;simp only [cond_true,cond_false];go_simp;((go_at_call 144;((with_reducible refine am (WD ml mh kl kh xl xh B1 _ (b9 hb0 hok) SX) ?_);intro w' hb)));exact hK _ _ ⟨_,_,_,_,_,_,_,_,_,_,_,_,_,_,_,_,_,_,_,_,_,_,_,_,_,_,_,_,_,_,_,_,_,EX,rfl,aq,o5 hb hb0,hq31,(fun t=>(hr31 t).later hb)⟩
   case s31=>intro ff gg KK hK;obtain rfl:l31=false:=ff;clear gg;simp only [cond_false];go_simp;exact hK _ _ ⟨_,_,_,_,_,_,_,_,_,_,_,_,_,_,_,_,_,_,_,_,_,_,_,_,_,_,_,_,_,_,_,_,_,vx.heap.size,rfl,aq,bw,(fun _=>rfl),(fun _=>L8.alloc hb0 _ _ _ _ _ _ hq31)⟩
   case s32=>intro ff gg KK hK;obtain rfl:l31=true:=gg ⟨31,.data⟩ (by simp) rfl;obtain rfl:l30=true:=gg ⟨30,.data⟩ (by simp) rfl;obtain rfl:l32=false:=ff;clear gg;simp only [cond_true];obtain ⟨m1,m2,fz0,fz1,y0,y1,cz0,cz1,m7⟩:=hr31 rfl;go_simp;exact hK _ _ ⟨_,_,_,_,_,_,_,_,_,_,_,_,_,_,_,_,_,_,_,_,_,_,_,_,_,_,_,_,_,_,_,_,_,EX,rfl,aq,((hb0.setCell m1 _).setCell m1 _),(fun _=>rfl),(fun _=>(hr31 rfl).store _ _ _)⟩
  case hdone=>
   intro LL aa vx h hd
   obtain ⟨l0,l1,l2,l3,l4,l5,l6,l7,l8,l9,l10,l11,l12,l13,l14,l15,l16,l17,l18,l19,l20,l21,l22,l23,l24,l25,l26,l27,l28,l29,l30,l31,l32,EX,hL,ha,hb0,hq31,hr31⟩:=h
   rw [hL] at hd
   have t0:l0=true:=hd 0 (by decide)
   have t1:l1=true:=hd 1 (by decide)
   have t2:l2=true:=hd 2 (by decide)
   have t3:l3=true:=hd 3 (by decide)
   have t4:l4=true:=hd 4 (by decide)
   have t5:l5=true:=hd 5 (by decide)
   have t6:l6=true:=hd 6 (by decide)
   have t7:l7=true:=hd 7 (by decide)
   have t8:l8=true:=hd 8 (by decide)
   have t9:l9=true:=hd 9 (by decide)
   have t10:l10=true:=hd 10 (by decide)
   have t11:l11=true:=hd 11 (by decide)
   have t12:l12=true:=hd 12 (by decide)
   have t13:l13=true:=hd 13 (by decide)
   have t14:l14=true:=hd 14 (by decide)
   have t15:l15=true:=hd 15 (by decide)
   have t16:l16=true:=hd 16 (by decide)
   have t17:l17=true:=hd 17 (by decide)
   have t18:l18=true:=hd 18 (by decide)
   have t19:l19=true:=hd 19 (by decide)
   have t20:l20=true:=hd 20 (by decide)
   have t21:l21=true:=hd 21 (by decide)
   have t22:l22=true:=hd 22 (by decide)
   have t23:l23=true:=hd 23 (by decide)
   have t24:l24=true:=hd 24 (by decide)
   have t25:l25=true:=hd 25 (by decide)
   have t26:l26=true:=hd 26 (by decide)
   have t27:l27=true:=hd 27 (by decide)
   have t28:l28=true:=hd 28 (by decide)
   have t29:l29=true:=hd 29 (by decide)
   have t30:l30=true:=hd 30 (by decide)
   have t31:l31=true:=hd 31 (by decide)
   have t32:l32=true:=hd 32 (by decide)
   clear hd hL hq31
   subst t0 t1 t2 t3 t4 t5 t6 t7 t8 t9 t10 t11 t12 t13 t14 t15 t16 t17 t18 t19 t20 t21 t22 t23 t24 t25 t26 t27 t28 t29 t30 t31 t32
   simp only [cond_true,List.setIfInBounds_toArray,List.set_cons_zero,List.set_cons_succ] at ha
   subst ha
   obtain ⟨EXg,EXl,EXf0,EXf1,y0,y1,EXc0,EXc1,hy⟩:=hr31 rfl
   obtain ⟨rfl,rfl⟩:=hy rfl
   clear hr31
   have a0:=cell_later hb0 a0
   have a1:=cell_later hb0 a1
   have b0:=cell_later hb0 b0
   have b1:=cell_later hb0 b1
   have d0:=cell_later hb0 d0
   have d1:=cell_later hb0 d1
   have r0:=cell_later hb0 r0
   have r1:=cell_later hb0 r1
   have rf:∀o,vx.frozen? ⟨w.heap.size+1+1,o,none⟩=false:=fun o=>(hb0.frozen (p:=⟨w.heap.size+1+1,o,none⟩) g2).trans (rf o)
   have hok:=b9 hb0 hok
   have hw2:Below w.heap.size w vx:=Below.trans hw1 (hb0.mono (by omega))
   have g9:=hb0.size
   have g2:w.heap.size+1+1<vx.heap.size:=by omega
   have g1:w.heap.size+1<vx.heap.size:=by omega
   have g0:w.heap.size<vx.heap.size:=by omega
   have gD:BD<vx.heap.size:=by omega
   have EYc0:=cell_later hb0 EYc0
   have EYc1:=cell_later hb0 EYc1
   have gY:EY<vx.heap.size:=World.block_lt_of_cell? _ _ EYc0
   have gB:=C6 hok
   clear hw1 hb0 g9
   have K:=b6 fun w' (hb:Below vx.heap.size vx w')=>qC L H B1 w' (b9 hb hok)
   go_wp2_with (first|(go_at_call 47;((with_reducible refine am (BR.out _) ?_);intro w' hb);replace hb:=mU;obtain ⟨hcell,hfroz,hz,z6,z7,z8,z9,_⟩:=oH;(try have hB1:B1<w'.heap.size:=by omega);(try have hB3:B1<w'.heap.size+1:=by omega);obtain ⟨w3,rfl⟩:=nm w')|(go_at_call 145;((with_reducible refine (K.out _ ?kb).mono ?_);(case kb=>(exact bw;done));rintro e w' ⟨rfl,hb⟩);replace hb:=mU;obtain ⟨hcell,hfroz,hz,z6,z7,z8,z9,_⟩:=oH;(try have hB1:B1<w'.heap.size:=by omega);(try have hB3:B1<w'.heap.size+1:=by omega);obtain ⟨w4,rfl⟩:=nm w'))
   exact bodyPost_ret (v:= .agg #[.int .i64 L,.int .i64 H]) (by first|(simp only [results,Tryz.results60];go_simp;done)|simp [results,Tryz.results60,go_sem, *]) rfl ⟨rfl,bw⟩
theorem mM (a b:Int) (w:World) (h1: -5400000<=a) (h2:a<=5400000) (h3: -10800000<=b) (h4:b<10800000):
  Calls Tryz.prog 59 #[.agg #[.int .i64 a,.int .i64 b]] w fun e w'=>e= .returned (.bool true)/\Below w.heap.size w w':=by
 go_enter Tryz.func59,Tryz.ntmps59
 go_wp2
 go_ret
 exact ⟨rfl,bw⟩
set_option maxRecDepth 100000 in
set_option maxHeartbeats 8000000 in
theorem sV (la lo lb lob p q L H:Int) (w:World) (h1: -5400000<=la) (h2:la<=5400000) (h3: -10800000<=lo) (h4:lo<10800000) (k1: -5400000<=lb) (k2:lb<=5400000) (k3: -10800000<=lob) (k4:lob<10800000)
  (C:Hid (∀B1 w,I6 w B1->Calls Tryz.prog 60 #[.pointer (some ⟨B1,0,none⟩),.agg #[.int .i64 la,.int .i64 lo],.agg #[.int .i64 lb,.int .i64 lob]] w fun e w'=>e= .returned (.agg #[.int .i64 p,.int .i64 q])/\Below w.heap.size w w'))
  (D:Hid (∀B1 w,I6 w B1->Calls Tryz.prog 61 #[.pointer (some ⟨B1,0,none⟩),.agg #[.int .i64 la,.int .i64 lo],.agg #[.int .i64 lb,.int .i64 lob]] w fun e w'=>e= .returned (.agg #[.int .i64 L,.int .i64 H])/\Below w.heap.size w w')):
  Calls Tryz.prog 17 #[.agg #[.int .i64 la,.int .i64 lo],.agg #[.int .i64 lb,.int .i64 lob]] w fun e w'=>e= .returned (.tuple #[.agg #[.int .i64 p,.int .i64 q,.int .i64 L,.int .i64 H],.int .i64 0])/\Below w.heap.size w w':=by
 have V1:=b6 fun w=>mM la lo w h1 h2 h3 h4
 have V2:=b6 fun w=>mM lb lob w k1 k2 k3 k4
 clear h1 h2 h3 h4 k1 k2 k3 k4
 go_enter Tryz.func17,Tryz.ntmps17
 go_upto_region 4 with (first|(go_at_call 59;((with_reducible refine am (V1.out _) ?_);intro w' hb);replace hb:=mU;obtain ⟨hcell,hfroz,hz,z6,z7,z8,z9,_⟩:=oH;obtain ⟨w1,rfl⟩:=nm w')|(go_at_call 59;((with_reducible refine am (V2.out _) ?_);intro w' hb);replace hb:=mU;obtain ⟨hcell,hfroz,hz,z6,z7,z8,z9,_⟩:=oH;obtain ⟨w2,rfl⟩:=nm w'))
 (refine m9 ?_;intro w' hb;replace hb:=mU;obtain ⟨hcell,hfroz,hz,z6,z7,z8,z9,_⟩:=oH)
 have hw0:Below w.heap.size w w':=bw
 have hd1:w.heap.size<w2.heap.size+1:=by omega
 have hd2:w.heap.size+1<w2.heap.size+1:=by omega
 have hd3:w.heap.size+1+1<w2.heap.size+1:=by omega
 have a0:=cq w' w.heap.size 0 la
 have a1:=cq w' w.heap.size 1 lo
 have b0:=cq w' (w.heap.size+1) 0 lb
 have b1:=cq w' (w.heap.size+1) 1 lob
 have r0:=cq w' (w.heap.size+1+1) 0 0
 have r1:=cq w' (w.heap.size+1+1) 1 0
 have r2:=cq w' (w.heap.size+1+1) 2 0
 have r3:=cq w' (w.heap.size+1+1) 3 0
 have rf:∀o,w'.frozen? ⟨w.heap.size+1+1,o,none⟩=false:=by intro o;simp [go_sem, *]
 have hok:I6 w' w2.heap.size:=⟨by simp [go_sem, *],by simp [go_sem, *]⟩
 have hz1:w.heap.size+1+1<w2.heap.size:=by omega
 clear hcell hfroz hz hb
 obtain ⟨V0,rfl⟩:=nm w'
 generalize w2.heap.size=BW at*
 have g2:w.heap.size+1+1<V0.heap.size:=World.block_lt_of_cell? _ _ r0
 refine B8 (fun a0 LL aa vv=>∃(l0 l1 l2 l3 l4 l5 l6 l7 l8:Bool) (EL:Nat),LL= #[l0,l1,l2,l3,l4,l5,l6,l7,l8]/\aa={a0 with tmps:=((((((((a0.tmps.setIfInBounds 17 (cond l0 (.agg #[.int .i64 la,.int .i64 lo]) (undef))).setIfInBounds 18 (cond l1 (.agg #[.int .i64 lb,.int .i64 lob]) (undef))).setIfInBounds 19 (cond l2 (.agg #[.int .i64 p,.int .i64 q]) (undef))).setIfInBounds 20 (cond l3 (.agg #[.int .i64 la,.int .i64 lo]) (undef))).setIfInBounds 21 (cond l4 (.agg #[.int .i64 lb,.int .i64 lob]) (undef))).setIfInBounds 22 (cond l5 (.agg #[.int .i64 L,.int .i64 H]) (undef))).setIfInBounds 23 (cond l6 (.agg #[.int .i64 p,.int .i64 q,.int .i64 L,.int .i64 H]) (undef))).setIfInBounds 7 (cond l7 (.pointer (some ⟨EL,0,none⟩)) (undef)))}/\Below V0.heap.size V0 vv/\(l8=true->l7=true)/\(l7=true->dF V0 vv EL l8 (p) (q) (L) (H))) (by kernel_rfl) (by kernel_rfl) ?h0 ?hsize ?hdone ?hstep
 case h0=>
  refine ⟨false,false,false,false,false,false,false,false,false,0,rfl,?_,bv,(fun h=>by cases h),(fun h=>by cases h)⟩
  simp only [cond_false,List.setIfInBounds_toArray,List.set_cons_zero,List.set_cons_succ]
 case hsize=>
  intro LL aa vv h
  obtain ⟨l0,l1,l2,l3,l4,l5,l6,l7,l8,EL,hL,_⟩:=h
  rw [hL]
  rfl
 case hstep=>
  intro LL aa vv h
  obtain ⟨l0,l1,l2,l3,l4,l5,l6,l7,l8,EL,hL,ha,hb0,hq7,hr7⟩:=h
  simp only [List.setIfInBounds_toArray,List.set_cons_zero,List.set_cons_succ] at ha
  subst hL
  subst ha
  refine ⟨?s0,?s1,?s2,?s3,?s4,?s5,?s6,?s7,?s8,trivial⟩
  case s0=>intro ff gg KK hK;obtain rfl:l0=false:=ff;clear gg;simp only [cond_false];have cc0:vv.cell? ⟨w.heap.size,0,none⟩=some (.int .i64 la):=cell_later hb0 a0;have cc1:vv.cell? ⟨w.heap.size,1,none⟩=some (.int .i64 lo):=cell_later hb0 a1;go_simp;exact hK _ _ ⟨_,_,_,_,_,_,_,_,_,EL,rfl,aq,hb0,hq7,hr7⟩
  case s1=>intro ff gg KK hK;obtain rfl:l1=false:=ff;clear gg;simp only [cond_false];have cc0:vv.cell? ⟨w.heap.size+1,0,none⟩=some (.int .i64 lb):=cell_later hb0 b0;have cc1:vv.cell? ⟨w.heap.size+1,1,none⟩=some (.int .i64 lob):=cell_later hb0 b1;go_simp;exact hK _ _ ⟨_,_,_,_,_,_,_,_,_,EL,rfl,aq,hb0,hq7,hr7⟩
  case s2=>intro ff gg KK hK;obtain rfl:l0=true:=gg ⟨0,.data⟩ (by simp) rfl;obtain rfl:l1=true:=gg ⟨1,.data⟩ (by simp) rfl;obtain rfl:l2=false:=ff;clear gg;simp only [cond_true,cond_false];go_simp;((go_at_call 60;((with_reducible refine am (C.out BW _ (b9 hb0 hok)) ?_);intro w' hb)));exact hK _ _ ⟨_,_,_,_,_,_,_,_,_,EL,rfl,aq,o5 hb hb0,hq7,(fun t=>(hr7 t).later hb)⟩
  case s3=>intro ff gg KK hK;obtain rfl:l3=false:=ff;clear gg;simp only [cond_false];have cc0:vv.cell? ⟨w.heap.size,0,none⟩=some (.int .i64 la):=cell_later hb0 a0;have cc1:vv.cell? ⟨w.heap.size,1,none⟩=some (.int .i64 lo):=cell_later hb0 a1;go_simp;exact hK _ _ ⟨_,_,_,_,_,_,_,_,_,EL,rfl,aq,hb0,hq7,hr7⟩
  case s4=>intro ff gg KK hK;obtain rfl:l4=false:=ff;clear gg;simp only [cond_false];have cc0:vv.cell? ⟨w.heap.size+1,0,none⟩=some (.int .i64 lb):=cell_later hb0 b0;have cc1:vv.cell? ⟨w.heap.size+1,1,none⟩=some (.int .i64 lob):=cell_later hb0 b1;go_simp;exact hK _ _ ⟨_,_,_,_,_,_,_,_,_,EL,rfl,aq,hb0,hq7,hr7⟩
  case s5=>intro ff gg KK hK;obtain rfl:l3=true:=gg ⟨3,.data⟩ (by simp) rfl;obtain rfl:l4=true:=gg ⟨4,.data⟩ (by simp) rfl;obtain rfl:l5=false:=ff;clear gg;simp only [cond_true,cond_false];go_simp;((go_at_call 61;((with_reducible refine am (D.out BW _ (b9 hb0 hok)) ?_);intro w' hb)));exact hK _ _ ⟨_,_,_,_,_,_,_,_,_,EL,rfl,aq,o5 hb hb0,hq7,(fun t=>(hr7 t).later hb)⟩
  case s6=>intro ff gg KK hK;obtain rfl:l2=true:=gg ⟨2,.data⟩ (by simp) rfl;obtain rfl:l5=true:=gg ⟨5,.data⟩ (by simp) rfl;obtain rfl:l6=false:=ff;clear gg;simp only [cond_true,cond_false];go_simp;exact hK _ _ ⟨_,_,_,_,_,_,_,_,_,EL,rfl,aq,hb0,hq7,hr7⟩
  case s7=>intro ff gg KK hK;obtain rfl:l7=false:=ff;clear gg;simp only [cond_false];go_simp;exact hK _ _ ⟨_,_,_,_,_,_,_,_,_,vv.heap.size,rfl,aq,bw,(fun _=>rfl),(fun _=>dF.alloc hb0 _ _ _ _ _ _ _ _ _ _ hq7)⟩
  case s8=>intro ff gg KK hK;obtain rfl:l7=true:=gg ⟨7,.data⟩ (by simp) rfl;obtain rfl:l6=true:=gg ⟨6,.data⟩ (by simp) rfl;obtain rfl:l8=false:=ff;clear gg;simp only [cond_true];obtain ⟨m1,m2,fz0,fz1,fz2,fz3,y0,y1,y2,y3,cz0,cz1,cz2,cz3,m7⟩:=hr7 rfl;go_simp;exact hK _ _ ⟨_,_,_,_,_,_,_,_,_,EL,rfl,aq,((((hb0.setCell m1 _).setCell m1 _).setCell m1 _).setCell m1 _),(fun _=>rfl),(fun _=>(hr7 rfl).store _ _ _ _ _)⟩
 case hdone=>
  intro LL aa vv h hd
  obtain ⟨l0,l1,l2,l3,l4,l5,l6,l7,l8,EL,hL,ha,hb0,hq7,hr7⟩:=h
  rw [hL] at hd
  have t0:l0=true:=hd 0 (by decide)
  have t1:l1=true:=hd 1 (by decide)
  have t2:l2=true:=hd 2 (by decide)
  have t3:l3=true:=hd 3 (by decide)
  have t4:l4=true:=hd 4 (by decide)
  have t5:l5=true:=hd 5 (by decide)
  have t6:l6=true:=hd 6 (by decide)
  have t7:l7=true:=hd 7 (by decide)
  have t8:l8=true:=hd 8 (by decide)
  clear hd hL hq7
  subst t0 t1 t2 t3 t4 t5 t6 t7 t8
  simp only [cond_true,List.setIfInBounds_toArray,List.set_cons_zero,List.set_cons_succ] at ha
  subst ha
  obtain ⟨ELg,ELl,ELf0,ELf1,ELf2,ELf3,y0,y1,y2,y3,ELc0,ELc1,ELc2,ELc3,hy⟩:=hr7 rfl
  obtain ⟨rfl,rfl,rfl,rfl⟩:=hy rfl
  clear hr7
  have hok:=b9 hb0 hok
  have r0:=cell_later hb0 r0
  have r1:=cell_later hb0 r1
  have r2:=cell_later hb0 r2
  have r3:=cell_later hb0 r3
  have rf:∀o,vv.frozen? ⟨w.heap.size+1+1,o,none⟩=false:=fun o=>(hb0.frozen (p:=⟨w.heap.size+1+1,o,none⟩) g2).trans (rf o)
  have hw1:Below w.heap.size w vv:=Below.trans hw0 (hb0.mono (by omega))
  have g9:=hb0.size
  have g2:w.heap.size+1+1<vv.heap.size:=by omega
  have gW:=C6 hok
  obtain ⟨ok1,ok2⟩:=hok
  clear hw0 hb0 g9 a0 a1 b0 b1
  go_wp2
  exact bodyPost_ret (v:= .tuple #[.agg #[.int .i64 p,.int .i64 q,.int .i64 L,.int .i64 H],.int .i64 0]) (by first|(simp only [results,Tryz.results17];go_simp;done)|simp [results,Tryz.results17,go_sem, *]) rfl ⟨rfl,bw⟩
end Go.Proofs.YtdhbeoahpfimbaaGreat
