/- Part of the proof of TopDistances. -/
import Derived.Test.YtdhbeoahpfimbaaGreatPn
namespace Go.Proofs.YtdhbeoahpfimbaaGreat
open Go.RowKit
set_option maxRecDepth 100000 in
set_option maxHeartbeats 8000000 in
theorem TT (a b c d p q x y:Int) (w:World) (h: -4800000<=a/\a<=4800000)
  (G:CB 17 #[.agg #[.int .i64 a,.int .i64 b],.agg #[.int .i64 c,.int .i64 d]] (.tuple #[.agg #[.int .i64 p,.int .i64 q,.int .i64 x,.int .i64 y],.int .i64 0])):
  Calls Tryz.prog 166 #[.agg #[.int .i64 a,.int .i64 b],.agg #[.int .i64 c,.int .i64 d],.int .i64 5399999] w fun e w'=>e= .returned (.tuple #[.agg #[.int .i64 p,.int .i64 q,.int .i64 x,.int .i64 y],.int .i64 0])/\Below w.heap.size w w':=by
 obtain ⟨s,hs⟩:∃s,max a (-a)=s:=⟨_,rfl⟩
 have S:=b6 fun w=>mG a s w (by omega) (fun _=>hs)
 have s1:(s==5399999)=false:=by simp;omega
 unfold CB at G
 clear h hs
 have s2:(s != 5399999)=true:=by simp [bne,s1]
 cases hk:(a==c)
 ·have k2:(a != c)=true:=by simp [bne,hk]
  clear s1 hk
  go_enter Tryz.func166,Tryz.ntmps166
  go_wp2_with (first|(go_at_call 162;((with_reducible refine am (S.out _) ?_);intro w' hb);replace hb:=mU;obtain ⟨hcell,hfroz,hz,z6,z7,z8,z9,_⟩:=oH;obtain ⟨w1,rfl⟩:=nm w')|(go_at_call 17;((with_reducible refine am (G.out _) ?_);intro w' hb);replace hb:=mU;obtain ⟨hcell,hfroz,hz,z6,z7,z8,z9,_⟩:=oH;(have r0:=cq w' (w.heap.size+1+1) 0 0);(have r1:=cq w' (w.heap.size+1+1) 1 0);(have r2:=cq w' (w.heap.size+1+1) 2 0);(have r3:=cq w' (w.heap.size+1+1) 3 0);(have rf:∀o,w'.frozen? ⟨w.heap.size+1+1,o,none⟩=false:=by intro o;simp [go_sem, *]);clear hcell hfroz;obtain ⟨w2,rfl⟩:=nm w'))
  exact bodyPost_ret (v:= .tuple #[.agg #[.int .i64 p,.int .i64 q,.int .i64 x,.int .i64 y],.int .i64 0]) (by first|(simp only [results,Tryz.results166];go_simp;done)|simp [results,Tryz.results166,go_sem, *]) rfl ⟨rfl,bw⟩
 ·have k2:(a != c)=false:=by simp [bne,hk]
  clear s1 hk
  go_enter Tryz.func166,Tryz.ntmps166
  go_wp2_with (first|(go_at_call 162;((with_reducible refine am (S.out _) ?_);intro w' hb);replace hb:=mU;obtain ⟨hcell,hfroz,hz,z6,z7,z8,z9,_⟩:=oH;obtain ⟨w1,rfl⟩:=nm w')|(go_at_call 17;((with_reducible refine am (G.out _) ?_);intro w' hb);replace hb:=mU;obtain ⟨hcell,hfroz,hz,z6,z7,z8,z9,_⟩:=oH;(have r0:=cq w' (w.heap.size+1+1) 0 0);(have r1:=cq w' (w.heap.size+1+1) 1 0);(have r2:=cq w' (w.heap.size+1+1) 2 0);(have r3:=cq w' (w.heap.size+1+1) 3 0);(have rf:∀o,w'.frozen? ⟨w.heap.size+1+1,o,none⟩=false:=by intro o;simp [go_sem, *]);clear hcell hfroz;obtain ⟨w2,rfl⟩:=nm w'))
  exact bodyPost_ret (v:= .tuple #[.agg #[.int .i64 p,.int .i64 q,.int .i64 x,.int .i64 y],.int .i64 0]) (by first|(simp only [results,Tryz.results166];go_simp;done)|simp [results,Tryz.results166,go_sem, *]) rfl ⟨rfl,bw⟩
theorem PZ:(Tryz.prog.info? 37).map (fun i=>(i.zero,i.size,i.bytes))=some (some (.agg #[.int .i64 0,.int .i64 0,.int .i64 0,.int .i64 0]),4,32):=by kernel_rfl
theorem PR (w:World) (x y z u:Value) (t:Nat):∀(j:Nat) v,([x,y,z,u]:List Value)[j]? =some v->(w.alloc (Obj.cells #[x,y,z,u] t)).cell? ((⟨w.heap.size,0,none⟩:Addr).add j)=some v:=by
 intro j v h
 match j,h with
 |0,h=>simp at h;subst h;simp [Addr.add,go_sem]
 |1,h=>simp at h;subst h;simp [Addr.add,go_sem]
 |2,h=>simp at h;subst h;simp [Addr.add,go_sem]
 |3,h=>simp at h;subst h;simp [Addr.add,go_sem]
 |n+4,h=>simp at h
theorem ZV (a b c d:Int):∀u∈([.int .i64 a,.int .i64 b,.int .i64 c,.int .i64 d]:List Value),u.oneCell'=true:=by
 intro u hu
 simp at hu
 rcases hu with rfl|rfl|rfl|rfl<;>rfl
theorem a0n {w:World} {base:Nat} {e:TypeId} {v x y z u:Value} (h:w.ownsRow base e 4 v 1 [x,y,z,u]):∃g cap,v= .slice (some ⟨g,0,none⟩) 1 cap/\base<=g/\w.cell? ⟨g,0,none⟩=some x/\w.cell? ⟨g,1,none⟩=some y/\w.cell? ⟨g,2,none⟩=some z/\w.cell? ⟨g,3,none⟩=some u:=by
 obtain ⟨_,h|⟨g,cap,cur,rfl,h2,h3,h4⟩⟩:=h
 ·exact absurd h.2 (by decide)
 ·have H:w.ownsRow base e 4 (.slice (some ⟨g,0,none⟩) 1 cap) 1 [x,y,z,u]:=⟨by simp,.inr ⟨g,cap,cur,rfl,h2,h3,h4⟩⟩
  exact ⟨g,cap,rfl,h2,by simpa using H.cellAt 0 (by decide),by simpa using H.cellAt 1 (by decide),by simpa using H.cellAt 2 (by decide),by simpa using H.cellAt 3 (by decide)⟩
theorem KZ (a b:Int) (B cp:Nat) (w:World) (p0:W7 a b) (h0:w.cell? ⟨B,0,none⟩=some (.int .i64 a)) (h1:w.cell? ⟨B,1,none⟩=some (.int .i64 b)):
  Calls Tryz.prog 87 #[.slice (some ⟨B,0,none⟩) 1 cp,.int .i64 5399999] w fun e w'=>e= .returned (.tuple #[.slice none 0 0,.int .i64 0])/\Below w.heap.size w w':=by
 have C:=b6 (TL a b B cp w p0 h0 h1)
 clear p0 h0 h1
 go_enter Tryz.func87,Tryz.ntmps87
 go_wp2_with (go_at_call 160;((with_reducible refine am C.out ?_);intro w' hb);replace hb:=mU;obtain ⟨hcell,hfroz,hz,z6,z7,z8,z9,_⟩:=oH;obtain ⟨w1,rfl⟩:=nm w')
 refine wp_loop_rounds 1 ?_
 rw [rounds_succ]
 go_wp2
 exact bodyPost_ret (v:= .tuple #[.slice none 0 0,.int .i64 0]) (by first|(simp only [results,Tryz.results87];go_simp;done)|simp [results,Tryz.results87,go_sem, *]) rfl ⟨rfl,bw⟩
def a3y (p q x y:Int) (w:World) (e:Ending) (w':World):Prop:=∃g cap,e= .returned (.tuple #[.slice (some ⟨g,0,none⟩) 1 cap,.int .i64 0])/\w'.cell? ⟨g,0,none⟩=some (.int .i64 p)/\w'.cell? ⟨g,1,none⟩=some (.int .i64 q)/\w'.cell? ⟨g,2,none⟩=some (.int .i64 x)/\w'.cell? ⟨g,3,none⟩=some (.int .i64 y)/\Below w.heap.size w w'
set_option maxRecDepth 100000 in
set_option maxHeartbeats 8000000 in
theorem LC (a b c d p q x y:Int) (B cp:Nat) (w:World) (p0:W7 a b) (p1:W7 c d) (h0:w.cell? ⟨B,0,none⟩=some (.int .i64 a)) (h1:w.cell? ⟨B,1,none⟩=some (.int .i64 b)) (h2:w.cell? ⟨B,2,none⟩=some (.int .i64 c)) (h3:w.cell? ⟨B,3,none⟩=some (.int .i64 d))
  (G:CB 17 #[.agg #[.int .i64 a,.int .i64 b],.agg #[.int .i64 c,.int .i64 d]] (.tuple #[.agg #[.int .i64 p,.int .i64 q,.int .i64 x,.int .i64 y],.int .i64 0])):
  Calls Tryz.prog 87 #[.slice (some ⟨B,0,none⟩) 2 cp,.int .i64 5399999] w (a3y p q x y w):=by
 have C:=b6 (yZ a b c d B cp w p0 p1 h0 h1 h2 h3)
 have L:=b6 fun w=>TT a b c d p q x y w p0.1 G
 have gB:B<w.heap.size:=World.block_lt_of_cell? _ _ h0
 obtain ⟨i0,hi,hz0,hz1,hz2⟩:=V9 PZ
 clear p0 p1 G
 go_enter Tryz.func87,Tryz.ntmps87
 go_wp2_with (go_at_call 160;((with_reducible refine am C.out ?_);intro w' hb);replace hb:=mU;obtain ⟨hcell,hfroz,hz,z6,z7,z8,z9,_⟩:=oH)
 have h0:=cell_later hb h0
 have h1:=cell_later hb h1
 have h2:=cell_later hb h2
 have h3:=cell_later hb h3
 have hw0:Below w.heap.size w w':=hb
 have gB:B<w'.heap.size:=World.block_lt_of_cell? _ _ h0
 clear hcell hfroz hb
 obtain ⟨w1,rfl⟩:=nm w'
 have W0:IntKind.i64.wrap 0=0:=by decide
 refine wp_loop_rounds 2 ?_
 rw [rounds_succ]
 go_wp2
 refine B8 (fun a0 LL aa vv=>∃(l0 l1 l2 l3 l4 l5 l6 l7 l8 l9 l10 l11 l12 l13 l14 l15 l16:Bool) (EX:Nat),LL= #[l0,l1,l2,l3,l4,l5,l6,l7,l8,l9,l10,l11,l12,l13,l14,l15,l16]/\aa={a0 with tmps:=((((((((((((((((a0.tmps.setIfInBounds 27 (cond l0 (.slice (some ⟨B,0,none⟩) 2 cp) (undef))).setIfInBounds 28 (cond l1 (.int .i64 1) (undef))).setIfInBounds 29 (cond l2 (.int .i64 0) (undef))).setIfInBounds 30 (cond l3 (.pointer (some ⟨B,0,none⟩)) (undef))).setIfInBounds 31 (cond l4 (.agg #[.int .i64 a,.int .i64 b]) (undef))).setIfInBounds 32 (cond l5 (.slice (some ⟨B,0,none⟩) 2 cp) (undef))).setIfInBounds 33 (cond l6 (.int .i64 1) (undef))).setIfInBounds 34 (cond l7 (.pointer (some ⟨B,2,none⟩)) (undef))).setIfInBounds 35 (cond l8 (.agg #[.int .i64 c,.int .i64 d]) (undef))).setIfInBounds 36 (cond l9 (.int .i64 5399999) (undef))).setIfInBounds 37 (cond l10 (.tuple #[.agg #[.int .i64 p,.int .i64 q,.int .i64 x,.int .i64 y],.int .i64 0]) (undef))).setIfInBounds 26 (cond l11 (.tuple #[.agg #[.int .i64 p,.int .i64 q,.int .i64 x,.int .i64 y],.int .i64 0]) (undef))).setIfInBounds 38 (cond l12 (.agg #[.int .i64 p,.int .i64 q,.int .i64 x,.int .i64 y]) (undef))).setIfInBounds 39 (cond l13 (.int .i64 0) (undef))).setIfInBounds 9 (cond l14 (.pointer (some ⟨EX,0,none⟩)) (undef))).setIfInBounds 10 (cond l16 (.int .i64 0) (undef)))}/\Below w1.heap.size w1 vv/\(l15=true->l14=true)/\(l14=true->dF w1 vv EX l15 (p) (q) (x) (y))) (by kernel_rfl) (by kernel_rfl) ?h0 ?hsize ?hdone ?hstep
 case h0=>
  refine ⟨false,false,false,false,false,false,false,false,false,false,false,false,false,false,false,false,false,0,rfl,?_,bv,(fun h=>by cases h),(fun h=>by cases h)⟩
  simp only [cond_false,List.setIfInBounds_toArray,List.set_cons_zero,List.set_cons_succ]
 case hsize=>
  intro LL aa vv h
  obtain ⟨l0,l1,l2,l3,l4,l5,l6,l7,l8,l9,l10,l11,l12,l13,l14,l15,l16,EX,hL,_⟩:=h
  rw [hL]
  rfl
 case hstep=>
  intro LL aa vv h
  obtain ⟨l0,l1,l2,l3,l4,l5,l6,l7,l8,l9,l10,l11,l12,l13,l14,l15,l16,EX,hL,ha,hb0,hq14,hr14⟩:=h
  simp only [List.setIfInBounds_toArray,List.set_cons_zero,List.set_cons_succ] at ha
  subst hL
  subst ha
  refine ⟨?s0,?s1,?s2,?s3,?s4,?s5,?s6,?s7,?s8,?s9,?s10,?s11,?s12,?s13,?s14,?s15,?s16,trivial⟩
  case s0=>intro ff gg KK hK;obtain rfl:l0=false:=ff;clear gg;simp only [cond_false];go_simp;exact hK _ _ ⟨_,_,_,_,_,_,_,_,_,_,_,_,_,_,_,_,_,EX,rfl,aq,hb0,hq14,hr14⟩
  case s1=>intro ff gg KK hK;obtain rfl:l1=false:=ff;clear gg;simp only [cond_false];go_simp;exact hK _ _ ⟨_,_,_,_,_,_,_,_,_,_,_,_,_,_,_,_,_,EX,rfl,aq,hb0,hq14,hr14⟩
  case s2=>intro ff gg KK hK;obtain rfl:l1=true:=gg ⟨1,.data⟩ (by simp) rfl;obtain rfl:l2=false:=ff;clear gg;simp only [cond_true,cond_false];go_simp;exact hK _ _ ⟨_,_,_,_,_,_,_,_,_,_,_,_,_,_,_,_,_,EX,rfl,aq,hb0,hq14,hr14⟩
  case s3=>intro ff gg KK hK;obtain rfl:l0=true:=gg ⟨0,.data⟩ (by simp) rfl;obtain rfl:l2=true:=gg ⟨2,.data⟩ (by simp) rfl;obtain rfl:l3=false:=ff;clear gg;simp only [cond_true,cond_false];go_simp;exact hK _ _ ⟨_,_,_,_,_,_,_,_,_,_,_,_,_,_,_,_,_,EX,rfl,aq,hb0,hq14,hr14⟩
  case s4=>intro ff gg KK hK;obtain rfl:l3=true:=gg ⟨3,.data⟩ (by simp) rfl;obtain rfl:l4=false:=ff;clear gg;simp only [cond_true,cond_false];have cc0:vv.cell? ⟨B,0,none⟩=some (.int .i64 a):=cell_later hb0 h0;have cc1:vv.cell? ⟨B,1,none⟩=some (.int .i64 b):=cell_later hb0 h1;go_simp;exact hK _ _ ⟨_,_,_,_,_,_,_,_,_,_,_,_,_,_,_,_,_,EX,rfl,aq,hb0,hq14,hr14⟩
  case s5=>intro ff gg KK hK;obtain rfl:l5=false:=ff;clear gg;simp only [cond_false];go_simp;exact hK _ _ ⟨_,_,_,_,_,_,_,_,_,_,_,_,_,_,_,_,_,EX,rfl,aq,hb0,hq14,hr14⟩
  case s6=>intro ff gg KK hK;obtain rfl:l6=false:=ff;clear gg;simp only [cond_false];go_simp;exact hK _ _ ⟨_,_,_,_,_,_,_,_,_,_,_,_,_,_,_,_,_,EX,rfl,aq,hb0,hq14,hr14⟩
  case s7=>intro ff gg KK hK;obtain rfl:l5=true:=gg ⟨5,.data⟩ (by simp) rfl;obtain rfl:l6=true:=gg ⟨6,.data⟩ (by simp) rfl;obtain rfl:l7=false:=ff;clear gg;simp only [cond_true,cond_false];go_simp;exact hK _ _ ⟨_,_,_,_,_,_,_,_,_,_,_,_,_,_,_,_,_,EX,rfl,aq,hb0,hq14,hr14⟩
  case s8=>intro ff gg KK hK;obtain rfl:l7=true:=gg ⟨7,.data⟩ (by simp) rfl;obtain rfl:l8=false:=ff;clear gg;simp only [cond_true,cond_false];have cc0:vv.cell? ⟨B,2,none⟩=some (.int .i64 c):=cell_later hb0 h2;have cc1:vv.cell? ⟨B,3,none⟩=some (.int .i64 d):=cell_later hb0 h3;go_simp;exact hK _ _ ⟨_,_,_,_,_,_,_,_,_,_,_,_,_,_,_,_,_,EX,rfl,aq,hb0,hq14,hr14⟩
  case s9=>intro ff gg KK hK;obtain rfl:l9=false:=ff;clear gg;simp only [cond_false];go_simp;exact hK _ _ ⟨_,_,_,_,_,_,_,_,_,_,_,_,_,_,_,_,_,EX,rfl,aq,hb0,hq14,hr14⟩
  case s10=>intro ff gg KK hK;obtain rfl:l4=true:=gg ⟨4,.data⟩ (by simp) rfl;obtain rfl:l8=true:=gg ⟨8,.data⟩ (by simp) rfl;obtain rfl:l9=true:=gg ⟨9,.data⟩ (by simp) rfl;obtain rfl:l10=false:=ff;clear gg;simp only [cond_true,cond_false];go_simp;((go_at_call 166;((with_reducible refine am (L.out _) ?_);intro w' hb)));exact hK _ _ ⟨_,_,_,_,_,_,_,_,_,_,_,_,_,_,_,_,_,EX,rfl,aq,o5 hb hb0,hq14,(fun t=>(hr14 t).later hb)⟩
  case s11=>intro ff gg KK hK;obtain rfl:l10=true:=gg ⟨10,.data⟩ (by simp) rfl;obtain rfl:l11=false:=ff;clear gg;simp only [cond_true,cond_false];go_simp;exact hK _ _ ⟨_,_,_,_,_,_,_,_,_,_,_,_,_,_,_,_,_,EX,rfl,aq,hb0,hq14,hr14⟩
  case s12=>intro ff gg KK hK;obtain rfl:l11=true:=gg ⟨11,.data⟩ (by simp) rfl;obtain rfl:l12=false:=ff;clear gg;simp only [cond_true,cond_false];go_simp;exact hK _ _ ⟨_,_,_,_,_,_,_,_,_,_,_,_,_,_,_,_,_,EX,rfl,aq,hb0,hq14,hr14⟩
  case s13=>intro ff gg KK hK;obtain rfl:l11=true:=gg ⟨11,.data⟩ (by simp) rfl;obtain rfl:l13=false:=ff;clear gg;simp only [cond_true,cond_false];go_simp;exact hK _ _ ⟨_,_,_,_,_,_,_,_,_,_,_,_,_,_,_,_,_,EX,rfl,aq,hb0,hq14,hr14⟩
  case s14=>intro ff gg KK hK;obtain rfl:l14=false:=ff;clear gg;simp only [cond_false];go_simp;exact hK _ _ ⟨_,_,_,_,_,_,_,_,_,_,_,_,_,_,_,_,_,vv.heap.size,rfl,aq,bw,(fun _=>rfl),(fun _=>dF.alloc hb0 _ _ _ _ _ _ _ _ _ _ hq14)⟩
  case s15=>intro ff gg KK hK;obtain rfl:l14=true:=gg ⟨14,.data⟩ (by simp) rfl;obtain rfl:l12=true:=gg ⟨12,.data⟩ (by simp) rfl;obtain rfl:l15=false:=ff;clear gg;simp only [cond_true];obtain ⟨m1,m2,fz0,fz1,fz2,fz3,y0,y1,y2,y3,cz0,cz1,cz2,cz3,m7⟩:=hr14 rfl;go_simp;exact hK _ _ ⟨_,_,_,_,_,_,_,_,_,_,_,_,_,_,_,_,_,EX,rfl,aq,((((hb0.setCell m1 _).setCell m1 _).setCell m1 _).setCell m1 _),(fun _=>rfl),(fun _=>(hr14 rfl).store _ _ _ _ _)⟩
  case s16=>intro ff gg KK hK;obtain rfl:l13=true:=gg ⟨13,.data⟩ (by simp) rfl;obtain rfl:l16=false:=ff;clear gg;simp only [cond_true,cond_false];go_simp;exact hK _ _ ⟨_,_,_,_,_,_,_,_,_,_,_,_,_,_,_,_,_,EX,rfl,aq,hb0,hq14,hr14⟩
 case hdone=>
  intro LL aa vv h hd
  obtain ⟨l0,l1,l2,l3,l4,l5,l6,l7,l8,l9,l10,l11,l12,l13,l14,l15,l16,EX,hL,ha,hb0,hq14,hr14⟩:=h
  rw [hL] at hd
  have t0:l0=true:=hd 0 (by decide)
  have t1:l1=true:=hd 1 (by decide)
  have t2:l2=true:=hd 2 (by decide)
  have t3:l3=true:=hd 3 (by decide)
  have t4:l4=true:=hd 4 (by decide)
  have t5:l5=true:=hd 5 (by decide)
  have t6:l6=true:=hd 6 (by decide)
  have t7:l7=true:=hd 7 (by decide)
  have t8:l8=true:=hd 8 (by decide)
  have t9:l9=true:=hd 9 (by decide)
  have t10:l10=true:=hd 10 (by decide)
  have t11:l11=true:=hd 11 (by decide)
  have t12:l12=true:=hd 12 (by decide)
  have t13:l13=true:=hd 13 (by decide)
  have t14:l14=true:=hd 14 (by decide)
  have t15:l15=true:=hd 15 (by decide)
  have t16:l16=true:=hd 16 (by decide)
  clear hd hL hq14
  subst t0 t1 t2 t3 t4 t5 t6 t7 t8 t9 t10 t11 t12 t13 t14 t15 t16
  simp only [cond_true,List.setIfInBounds_toArray,List.set_cons_zero,List.set_cons_succ] at ha
  subst ha
  obtain ⟨EXg,EXl,EXf0,EXf1,EXf2,EXf3,y0,y1,y2,y3,EXc0,EXc1,EXc2,EXc3,hy⟩:=hr14 rfl
  obtain ⟨rfl,rfl,rfl,rfl⟩:=hy rfl
  clear hr14
  have hw1:Below w.heap.size w vv:=Below.trans hw0 (hb0.mono hw0.size)
  have nb:Below vv.heap.size vv vv:=Below.refl _ _
  have n0:vv.ownsRow vv.heap.size 37 4 (.slice none 0 0) 0 []:=World.ownsRow_nil _ _ _ _
  clear hb0
  go_wp2_with (at_builtin;refine wpList_append_own_at _ rfl _ _ 38 rfl vv.heap.size 37 i0 (.agg #[.int .i64 0,.int .i64 0,.int .i64 0,.int .i64 0]) 4 32 Tryz.underlying38 hi hz0 hz1 hz2 rfl (by decide) _ 0 _ rfl (n0.alloc _) ⟨vv.heap.size,0,none⟩ 1 1 [.int .i64 p,.int .i64 q,.int .i64 x,.int .i64 y] rfl rfl (PR _ _ _ _ _ _) (ZV _ _ _ _) (by decide) (by decide) (by simp) ?_;intro v' w' hown hg _ _)
  have hbA:Below vv.heap.size vv w':=XG nb n0 hg
  have hw2:Below w.heap.size w w':=Below.trans hw1 (hbA.mono hw1.size)
  obtain ⟨g,cap,rfl,_,q0,q1,q2,q3⟩:=a0n hown
  clear hg n0 nb hown
  rw [rounds_succ]
  go_wp2
  exact bodyPost_ret (v:= .tuple #[.slice (some ⟨g,0,none⟩) 1 cap,.int .i64 0]) (by first|(simp only [results,Tryz.results87];go_simp;done)|simp [results,Tryz.results87,go_sem, *]) rfl ⟨g,cap,rfl,q0,q1,q2,q3,hw2⟩
theorem ZW (w:World) (e:TypeId) (x y:Value):(w.alloc (Obj.cells #[x,y] e)).ownsRow w.heap.size e 2 (.slice (some ⟨w.heap.size,0,none⟩) 1 1) 1 [x,y]:=
 ⟨by simp,.inr ⟨w.heap.size,1,#[x,y],rfl,Nat.le_refl _,heap_alloc_new w _,Nat.le_refl _,by decide,by simp,by simp⟩⟩
theorem a0r {w:World} {base:Nat} {e:TypeId} {v x y z u:Value} (h:w.ownsRow base e 2 v 2 [x,y,z,u]):∃g cap,v= .slice (some ⟨g,0,none⟩) 2 cap/\base<=g/\2<=cap/\w.cell? ⟨g,0,none⟩=some x/\w.cell? ⟨g,1,none⟩=some y/\w.cell? ⟨g,2,none⟩=some z/\w.cell? ⟨g,3,none⟩=some u/\∀o,w.frozen? ⟨g,o,none⟩=false:=by
 obtain ⟨_,h|⟨g,cap,cur,rfl,h2,h3,h4,h5⟩⟩:=h
 ·exact absurd h.2 (by decide)
 ·have H:w.ownsRow base e 2 (.slice (some ⟨g,0,none⟩) 2 cap) 2 [x,y,z,u]:=⟨by simp,.inr ⟨g,cap,cur,rfl,h2,h3,h4,h5⟩⟩
  exact ⟨g,cap,rfl,h2,h4,by simpa using H.cellAt 0 (by decide),by simpa using H.cellAt 1 (by decide),by simpa using H.cellAt 2 (by decide),by simpa using H.cellAt 3 (by decide),fun o=>H.frozenAt o⟩
theorem QZ {w:World} {B k:Nat} (h:k≠B) (i:Nat) (x:Value):(w.setCell ⟨B,i,none⟩ x).heap[k]? =w.heap[k]? :=by
 unfold World.setCell
 simp only [Array.getElem?_modify]
 rw [if_neg (fun e=>h e.symm)]
theorem oP {w:World} {base B:Nat} {e:TypeId} {size n:Nat} {v:Value} {xs:List Value} (h:w.ownsRow base e size v n xs) (hn:∀g,v.ownBlock=some g->g≠B) (i:Nat) (x:Value):(w.setCell ⟨B,i,none⟩ x).ownsRow base e size v n xs:=by
 refine ⟨h.1,?_⟩
 rcases h.2 with h|⟨g,cap,cur,rfl,h2,h3,h4⟩
 ·exact .inl h
 ·exact .inr ⟨g,cap,cur,rfl,h2,(QZ (hn g rfl) i x).trans h3,h4⟩
def mZ (V:World) (X Y:Nat) (a b c d:Value):World:=(((V.setCell ⟨X,0,none⟩ a).setCell ⟨X,1,none⟩ b).setCell ⟨Y,0,none⟩ c).setCell ⟨Y,1,none⟩ d
theorem yS {V:World} {X Y:Nat} (n:X≠Y) {a b c d p q r s:Value} (x0:V.cell? ⟨X,0,none⟩=some p) (x1:V.cell? ⟨X,1,none⟩=some q) (y0:V.cell? ⟨Y,0,none⟩=some r) (y1:V.cell? ⟨Y,1,none⟩=some s):
  ((mZ V X Y a b c d).cell? ⟨X,0,none⟩=some a/\(mZ V X Y a b c d).cell? ⟨X,1,none⟩=some b)/\(mZ V X Y a b c d).cell? ⟨Y,0,none⟩=some c/\(mZ V X Y a b c d).cell? ⟨Y,1,none⟩=some d:=by
 have e:=K4 (x:=a) (y:=b) (i:=0) (j:=1) (by decide) x0 x1
 have f0:=i9 (i:=0) (j:=1) (x:=a) (y:=b) (Ne.symm n) y0
 have f1:=i9 (i:=0) (j:=1) (x:=a) (y:=b) (Ne.symm n) y1
 exact ⟨⟨i9 n e.1,i9 n e.2⟩,K4 (by decide) f0 f1⟩
theorem O3 {V:World} {X Y B k:Nat} {a b c d z:Value} (h1:B≠X) (h2:B≠Y) (h:V.cell? ⟨B,k,none⟩=some z):(mZ V X Y a b c d).cell? ⟨B,k,none⟩=some z:=i9 h2 (i9 h1 h)
theorem jD {V:World} {X Y B:Nat} {a b c d:Value} (h:∀o,V.frozen? ⟨B,o,none⟩=false):∀o,(mZ V X Y a b c d).frozen? ⟨B,o,none⟩=false:=fun o=>by unfold mZ;simpa using h o
theorem qV {V w:World} {X Y N:Nat} {a b c d:Value} (h:Below N w V) (h1:N<=X) (h2:N<=Y):Below N w (mZ V X Y a b c d):=(((h.setCell h1 _).setCell h1 _).setCell h2 _).setCell h2 _
theorem wX {V:World} {X Y base:Nat} {e:TypeId} {size n:Nat} {v:Value} {xs:List Value} {a b c d:Value} (h:V.ownsRow base e size v n xs) (h1:∀g,v.ownBlock=some g->g≠X) (h2:∀g,v.ownBlock=some g->g≠Y):(mZ V X Y a b c d).ownsRow base e size v n xs:=
 oP (oP (oP (oP h h1 _ _) h1 _ _) h2 _ _) h2 _ _
theorem XY:(Tryz.prog.info? 49).map (fun i=>(i.zero,i.size,i.bytes))=some (some (.agg #[.int .i64 0,.int .i64 0]),2,16):=by kernel_rfl
def a27 (n:Nat) (la lo lb lob:Int) (g:Nat) (w:World):Prop:=(w.cell? ⟨g,0,none⟩=some (.int .i64 la)/\w.cell? ⟨g,1,none⟩=some (.int .i64 lo))/\(n=2->w.cell? ⟨g,2,none⟩=some (.int .i64 lb)/\w.cell? ⟨g,3,none⟩=some (.int .i64 lob))
def IA (n:Nat) (la lo lb lob:Int) (w:World) (e:Ending) (w':World):Prop:=∃g cap,e= .returned (.tuple #[.slice (some ⟨g,0,none⟩) n cap,.int .i64 0])/\a27 n la lo lb lob g w'/\Below w.heap.size w w'
set_option maxRecDepth 100000 in
set_option maxHeartbeats 8000000 in
theorem EO (la lo lb lob dl s xl xh yl yh:Int) (n:Nat) (w:World) (pa:W7 la lo) (pb:W7 lb lob) (hd: -10800000<=dl/\dl<=10800000) (hs:∀_:True,max dl (-dl)=s)
  (bx:(5300000<=xl/\xl<=5500000)/\5300000<=xh/\xh<=5500000) (bY:(5300000<=yl/\yl<=5500000)/\5300000<=yh/\yh<=5500000) (hs2:s<=10200000)
  (X1:CB 161 #[.int .i64 la,.int .i64 5399999] (.tuple #[.agg #[.int .i64 xl,.int .i64 xh],.int .i64 0])) (Y1:CB 161 #[.int .i64 lb,.int .i64 5399999] (.tuple #[.agg #[.int .i64 yl,.int .i64 yh],.int .i64 0])) (SG:CB 21 #[.int .i64 (lob-lo)] (.int .i64 dl))
  (CM:Hid (∀g cp w,2<=cp->w.cell? ⟨g,0,none⟩=some (.int .i64 la)->w.cell? ⟨g,1,none⟩=some (.int .i64 lo)->w.cell? ⟨g,2,none⟩=some (.int .i64 lb)->w.cell? ⟨g,3,none⟩=some (.int .i64 lob)->(∀o,w.frozen? ⟨g,o,none⟩=false)->
   Calls Tryz.prog 165 #[.slice (some ⟨g,0,none⟩) 2 cp] w fun e w'=>e= .returned (.slice (some ⟨g,0,none⟩) n cp)/\a27 n la lo lb lob g w'/\∀N,N<=g->Below N w w')):
  Calls Tryz.prog 86 #[.agg #[.int .i64 la,.int .i64 lo],.agg #[.int .i64 lb,.int .i64 lob],.int .i64 5399999] w (IA n la lo lb lob w):=by
 have C:=b6 fun B cp w h0 h1 h2 h3=>yZ la lo lb lob B cp w pa pb h0 h1 h2 h3
 have S:=b6 fun w=>mG dl s w (by omega) hs
 have T1:=b6 fun w=>dN xl xh w (by omega) (by omega)
 have T2:=b6 fun w=>dN yl yh w (by omega) (by omega)
 have T3:=b6 fun w=>(by have:=dN (10800000-xh) (10800000-xl) w (by omega) (by omega);rw [show (10800000:Int)-(10800000-xl)=xl by omega,show (10800000:Int)-(10800000-xh)=xh by omega] at this;exact this:Calls Tryz.prog 164 #[.agg #[.int .i64 (10800000-xh),.int .i64 (10800000-xl)]] w fun e w'=>e= .returned (.agg #[.int .i64 xl,.int .i64 xh])/\Below w.heap.size w w')
 have T4:=b6 fun w=>(by have:=dN (10800000-yh) (10800000-yl) w (by omega) (by omega);rw [show (10800000:Int)-(10800000-yl)=yl by omega,show (10800000:Int)-(10800000-yh)=yh by omega] at this;exact this:Calls Tryz.prog 164 #[.agg #[.int .i64 (10800000-yh),.int .i64 (10800000-yl)]] w fun e w'=>e= .returned (.agg #[.int .i64 yl,.int .i64 yh])/\Below w.heap.size w w')
 have W1:IntKind.i64.wrap (xh+yh)=xh+yh:=by rw [IntKind.wrap_i64];omega
 have W2:IntKind.i64.wrap (10800000-xl+(10800000-yl))=10800000-xl+(10800000-yl):=by rw [IntKind.wrap_i64];omega
 have W3:IntKind.i64.wrap (lob-lo)=lob-lo:=by unfold W7 at pa pb;rw [IntKind.wrap_i64];omega
 have c1:(xh+yh<s)=False:=eq_false (by omega)
 have c2:(10800000-xl+(10800000-yl)<s)=False:=eq_false (by omega)
 obtain ⟨i0,hi,hz0,hz1,hz2⟩:=V9 XY
 unfold CB at X1 Y1 SG
 clear hs pa pb bx bY hs2 hd
 go_enter Tryz.func86,Tryz.ntmps86
 go_upto_region 12 with (first|(go_at_call 160;((with_reducible refine (C.out _ _ _ ?c0 ?c1 ?c2 ?c3).mono ?_);(case c0=>(simp [go_sem, *];done));(case c1=>(simp [go_sem, *];done));(case c2=>(simp [go_sem, *];done));(case c3=>(simp [go_sem, *];done));rintro e w' ⟨rfl,hb⟩);replace hb:=mU;obtain ⟨hcell,hfroz,hz,z6,z7,z8,z9,_⟩:=oH;obtain ⟨w1,rfl⟩:=nm w')|(go_at_call 161;((with_reducible refine am (X1.out _) ?_);intro w' hb);replace hb:=mU;obtain ⟨hcell,hfroz,hz,z6,z7,z8,z9,_⟩:=oH;obtain ⟨w2,rfl⟩:=nm w')|(go_at_call 161;((with_reducible refine am (Y1.out _) ?_);intro w' hb);replace hb:=mU;obtain ⟨hcell,hfroz,hz,z6,z7,z8,z9,_⟩:=oH;obtain ⟨w3,rfl⟩:=nm w')|(go_at_call 21;((with_reducible refine am (SG.out _) ?_);intro w' hb);replace hb:=mU;obtain ⟨hcell,hfroz,hz,z6,z7,z8,z9,_⟩:=oH;obtain ⟨w4,rfl⟩:=nm w'))
 (refine m9 ?_;intro w' hb;replace hb:=mU;obtain ⟨hcell,hfroz,hz,z6,z7,z8,z9,_⟩:=oH)
 have hw0:Below w.heap.size w w':=bw
 have sB:w'.ownsRow w4.heap.size 49 2 (.slice (some ⟨w4.heap.size,0,none⟩) 1 1) 1 [.int .i64 la,.int .i64 lo]:=G1 hb (ZW w4 _ _ _)
 have ta0:=cq w' w.heap.size 0 (la)
 have ta1:=cq w' w.heap.size 1 (lo)
 have tb0:=cq w' (w.heap.size+1) 0 (lb)
 have tb1:=cq w' (w.heap.size+1) 1 (lob)
 have tc0:=cq w' w2.heap.size 0 (xl)
 have tc1:=cq w' w2.heap.size 1 (xh)
 have td0:=cq w' w3.heap.size 0 (yl)
 have td1:=cq w' w3.heap.size 1 (yh)
 have xf:∀o,w'.frozen? ⟨w2.heap.size,o,none⟩=false:=by intro o;simp [go_sem, *]
 have yf:∀o,w'.frozen? ⟨w3.heap.size,o,none⟩=false:=by intro o;simp [go_sem, *]
 have nXY:w2.heap.size≠w3.heap.size:=by omega
 have n1:w.heap.size+1<w2.heap.size:=by omega
 have n2:w3.heap.size<w4.heap.size:=by omega
 have n3:w2.heap.size<w4.heap.size:=by omega
 clear hcell hfroz hz hb
 obtain ⟨V0,rfl⟩:=nm w'
 have gX:w2.heap.size<V0.heap.size:=World.block_lt_of_cell? _ _ tc0
 have gY:w3.heap.size<V0.heap.size:=World.block_lt_of_cell? _ _ td0
 obtain ⟨OB,hOB⟩:∃k,w4.heap.size=k:=⟨_,rfl⟩
 obtain ⟨X,hX⟩:∃k,w2.heap.size=k:=⟨_,rfl⟩
 obtain ⟨Y,hY⟩:∃k,w3.heap.size=k:=⟨_,rfl⟩
 have gO:OB<V0.heap.size:=by have:=sB.lt OB (by rw [hOB];rfl);omega
 rw [hOB] at sB n2 n3 ⊢
 rw [hX] at tc0 tc1 xf gX nXY n1 n3 ⊢
 rw [hY] at td0 td1 yf gY nXY n2 ⊢
 have g0:w.heap.size<V0.heap.size:=by omega
 have g1:w.heap.size+1<V0.heap.size:=by omega
 go_wp2
 (refine m9 ?_;intro w' hb;replace hb:=mU;obtain ⟨hcell,hfroz,hz,z6,z7,z8,z9,_⟩:=oH)
 have tj0:=cq w' V0.heap.size 0 5399999
 have tj1:=cq w' V0.heap.size 1 (-5399999)
 have hw1:Below V0.heap.size V0 w':=bw
 have ta0:=cell_later hw1 ta0
 have ta1:=cell_later hw1 ta1
 have tb0:=cell_later hw1 tb0
 have tb1:=cell_later hw1 tb1
 have tc0:=cell_later hw1 tc0
 have tc1:=cell_later hw1 tc1
 have td0:=cell_later hw1 td0
 have td1:=cell_later hw1 td1
 have xf:∀o,w'.frozen? ⟨X,o,none⟩=false:=fun o=>(hw1.frozen (p:=⟨X,o,none⟩) gX).trans (xf o)
 have yf:∀o,w'.frozen? ⟨Y,o,none⟩=false:=fun o=>(hw1.frozen (p:=⟨Y,o,none⟩) gY).trans (yf o)
 have sB:=G1 hw1 sB
 have nJX:V0.heap.size≠X:=by omega
 have nJY:V0.heap.size≠Y:=by omega
 have nOX:OB≠X:=by omega
 have nOY:OB≠Y:=by omega
 have hw:Below w.heap.size w w':=Below.trans hw0 (hw1.mono (by omega))
 clear hcell hfroz hz hb hw0 hw1
 obtain ⟨V1,rfl⟩:=nm w'
 obtain ⟨J,hJ⟩:∃k,V0.heap.size=k:=⟨_,rfl⟩
 rw [hJ] at tj0 tj1 nJX nJY ⊢
 obtain ⟨A0,hA0⟩:∃k,w.heap.size=k:=⟨_,rfl⟩
 have nA:A0+1<X/\A0+1<Y/\A0<OB:=by omega
 rw [hA0] at ta0 ta1 tb0 tb1 hw ⊢
 clear hJ hX hY hOB n1 n2 n3 g0 g1 gO
 refine wp_loop_rounds 3 ?_
 have gA0:A0<V1.heap.size:=World.block_lt_of_cell? _ _ ta0
 have gA1:A0+1<V1.heap.size:=World.block_lt_of_cell? _ _ tb0
 have gX:X<V1.heap.size:=World.block_lt_of_cell? _ _ tc0
 have gY:Y<V1.heap.size:=World.block_lt_of_cell? _ _ td0
 have gJ:J<V1.heap.size:=World.block_lt_of_cell? _ _ tj0
 rw [rounds_succ]
 go_wp2
 refine wp_region_quiet_below (by kernel_rfl) (by kernel_rfl) ?_
 repeat (first|go_big_quiet_step ((go_at_call 162;(with_reducible exact Calls.regrown_of (S.out _))))|quiet_step ((go_at_call 162;(with_reducible exact Calls.regrown_of (S.out _)))))
 refine wpQuiet_nil ?_;intro w' hw';have hb:=i8 hw';clear hw';replace hb:=mU;obtain ⟨hcell,hfroz,hz,z6,z7,z8,z9,_⟩:=oH
 have ta0:=cell_later hb ta0
 have ta1:=cell_later hb ta1
 have tb0:=cell_later hb tb0
 have tb1:=cell_later hb tb1
 have tj0:=cell_later hb tj0
 have tj1:=cell_later hb tj1
 have tc0:=cell_later hb tc0
 have tc1:=cell_later hb tc1
 have td0:=cell_later hb td0
 have td1:=cell_later hb td1
 have xf:∀o,w'.frozen? ⟨X,o,none⟩=false:=fun o=>(hb.frozen (p:=⟨X,o,none⟩) gX).trans (xf o)
 have yf:∀o,w'.frozen? ⟨Y,o,none⟩=false:=fun o=>(hb.frozen (p:=⟨Y,o,none⟩) gY).trans (yf o)
 have sB:=G1 hb sB
 have hw:Below A0 w w':=Below.trans hw (hb.mono (Nat.le_of_lt gA0))
 clear hcell hfroz hz hb gA0 gA1 gX gY gJ
 obtain ⟨V2,rfl⟩:=nm w'
 have gA0:A0<V2.heap.size:=World.block_lt_of_cell? _ _ ta0
 have gA1:A0+1<V2.heap.size:=World.block_lt_of_cell? _ _ tb0
 have gX:X<V2.heap.size:=World.block_lt_of_cell? _ _ tc0
 have gY:Y<V2.heap.size:=World.block_lt_of_cell? _ _ td0
 have gJ:J<V2.heap.size:=World.block_lt_of_cell? _ _ tj0
 go_upto_region 20 with fail
 refine n9 4 (by kernel_rfl) (by kernel_rfl) ?_
 simp only [List.take_succ_cons,List.take_zero,List.drop_succ_cons,List.drop_zero]
 repeat (first|go_big_quiet_step ((first|(go_at_call 164;(with_reducible exact Calls.regrown_of (T1.out _)))|(go_at_call 164;(with_reducible exact Calls.regrown_of (T2.out _)))))|quiet_step ((first|(go_at_call 164;(with_reducible exact Calls.regrown_of (T1.out _)))|(go_at_call 164;(with_reducible exact Calls.regrown_of (T2.out _))))))
 refine wpQuiet_nil ?_;intro w' hw';have hb:=i8 hw';clear hw';replace hb:=mU;obtain ⟨hcell,hfroz,hz,z6,z7,z8,z9,_⟩:=oH
 have ta0:=cell_later hb ta0
 have ta1:=cell_later hb ta1
 have tb0:=cell_later hb tb0
 have tb1:=cell_later hb tb1
 have tj0:=cell_later hb tj0
 have tj1:=cell_later hb tj1
 have tc0:=cell_later hb tc0
 have tc1:=cell_later hb tc1
 have td0:=cell_later hb td0
 have td1:=cell_later hb td1
 have xf:∀o,w'.frozen? ⟨X,o,none⟩=false:=fun o=>(hb.frozen (p:=⟨X,o,none⟩) gX).trans (xf o)
 have yf:∀o,w'.frozen? ⟨Y,o,none⟩=false:=fun o=>(hb.frozen (p:=⟨Y,o,none⟩) gY).trans (yf o)
 have sB:=G1 hb sB
 have hw:Below A0 w w':=Below.trans hw (hb.mono (Nat.le_of_lt gA0))
 clear hcell hfroz hz hb gA0 gA1 gX gY gJ
 obtain ⟨V3,rfl⟩:=nm w'
 have gA0:A0<V3.heap.size:=World.block_lt_of_cell? _ _ ta0
 have gA1:A0+1<V3.heap.size:=World.block_lt_of_cell? _ _ tb0
 have gX:X<V3.heap.size:=World.block_lt_of_cell? _ _ tc0
 have gY:Y<V3.heap.size:=World.block_lt_of_cell? _ _ td0
 have gJ:J<V3.heap.size:=World.block_lt_of_cell? _ _ tj0
 go_upto_region 21 with fail
 have nv:∀g,(Value.slice (some ⟨OB,0,none⟩) 1 1).ownBlock=some g->g≠X:=fun g h=>by cases h;exact nOX
 have nv':∀g,(Value.slice (some ⟨OB,0,none⟩) 1 1).ownBlock=some g->g≠Y:=fun g h=>by cases h;exact nOY
 have F:=yS (a:= .int .i64 (10800000-xh)) (b:= .int .i64 (10800000-xl)) (c:= .int .i64 (10800000-yh)) (d:= .int .i64 (10800000-yl)) nXY tc0 tc1 td0 td1
 obtain ⟨⟨tc0,tc1⟩,td0,td1⟩:=F
 have ta0:=O3 (a:= .int .i64 (10800000-xh)) (b:= .int .i64 (10800000-xl)) (c:= .int .i64 (10800000-yh)) (d:= .int .i64 (10800000-yl)) (show A0≠X by omega) (show A0≠Y by omega) ta0
 have ta1:=O3 (a:= .int .i64 (10800000-xh)) (b:= .int .i64 (10800000-xl)) (c:= .int .i64 (10800000-yh)) (d:= .int .i64 (10800000-yl)) (show A0≠X by omega) (show A0≠Y by omega) ta1
 have tb0:=O3 (a:= .int .i64 (10800000-xh)) (b:= .int .i64 (10800000-xl)) (c:= .int .i64 (10800000-yh)) (d:= .int .i64 (10800000-yl)) (show A0+1≠X by omega) (show A0+1≠Y by omega) tb0
 have tb1:=O3 (a:= .int .i64 (10800000-xh)) (b:= .int .i64 (10800000-xl)) (c:= .int .i64 (10800000-yh)) (d:= .int .i64 (10800000-yl)) (show A0+1≠X by omega) (show A0+1≠Y by omega) tb1
 have tj0:=O3 (a:= .int .i64 (10800000-xh)) (b:= .int .i64 (10800000-xl)) (c:= .int .i64 (10800000-yh)) (d:= .int .i64 (10800000-yl)) nJX nJY tj0
 have tj1:=O3 (a:= .int .i64 (10800000-xh)) (b:= .int .i64 (10800000-xl)) (c:= .int .i64 (10800000-yh)) (d:= .int .i64 (10800000-yl)) nJX nJY tj1
 have xf:=jD (X:=X) (Y:=Y) (a:= .int .i64 (10800000-xh)) (b:= .int .i64 (10800000-xl)) (c:= .int .i64 (10800000-yh)) (d:= .int .i64 (10800000-yl)) xf
 have yf:=jD (X:=X) (Y:=Y) (a:= .int .i64 (10800000-xh)) (b:= .int .i64 (10800000-xl)) (c:= .int .i64 (10800000-yh)) (d:= .int .i64 (10800000-yl)) yf
 have sB:=wX (a:= .int .i64 (10800000-xh)) (b:= .int .i64 (10800000-xl)) (c:= .int .i64 (10800000-yh)) (d:= .int .i64 (10800000-yl)) sB nv nv'
 have hw:=qV (X:=X) (Y:=Y) (a:= .int .i64 (10800000-xh)) (b:= .int .i64 (10800000-xl)) (c:= .int .i64 (10800000-yh)) (d:= .int .i64 (10800000-yl)) hw (by omega) (by omega)
 clear nv nv' gA0 gA1 gX gY gJ
 change Code.wp _ _ _ _ (mZ V3 X Y (.int .i64 (10800000-xh)) (.int .i64 (10800000-xl)) (.int .i64 (10800000-yh)) (.int .i64 (10800000-yl)))
 generalize mZ V3 X Y (.int .i64 (10800000-xh)) (.int .i64 (10800000-xl)) (.int .i64 (10800000-yh)) (.int .i64 (10800000-yl))=V4 at*
 go_wp2
 have gA0:A0<V4.heap.size:=World.block_lt_of_cell? _ _ ta0
 have gA1:A0+1<V4.heap.size:=World.block_lt_of_cell? _ _ tb0
 have gX:X<V4.heap.size:=World.block_lt_of_cell? _ _ tc0
 have gY:Y<V4.heap.size:=World.block_lt_of_cell? _ _ td0
 have gJ:J<V4.heap.size:=World.block_lt_of_cell? _ _ tj0
 rw [rounds_succ]
 go_wp2
 refine wp_region_quiet_below (by kernel_rfl) (by kernel_rfl) ?_
 repeat (first|go_big_quiet_step ((go_at_call 162;(with_reducible exact Calls.regrown_of (S.out _))))|quiet_step ((go_at_call 162;(with_reducible exact Calls.regrown_of (S.out _)))))
 refine wpQuiet_nil ?_;intro w' hw';have hb:=i8 hw';clear hw';replace hb:=mU;obtain ⟨hcell,hfroz,hz,z6,z7,z8,z9,_⟩:=oH
 have ta0:=cell_later hb ta0
 have ta1:=cell_later hb ta1
 have tb0:=cell_later hb tb0
 have tb1:=cell_later hb tb1
 have tj0:=cell_later hb tj0
 have tj1:=cell_later hb tj1
 have tc0:=cell_later hb tc0
 have tc1:=cell_later hb tc1
 have td0:=cell_later hb td0
 have td1:=cell_later hb td1
 have xf:∀o,w'.frozen? ⟨X,o,none⟩=false:=fun o=>(hb.frozen (p:=⟨X,o,none⟩) gX).trans (xf o)
 have yf:∀o,w'.frozen? ⟨Y,o,none⟩=false:=fun o=>(hb.frozen (p:=⟨Y,o,none⟩) gY).trans (yf o)
 have sB:=G1 hb sB
 have hw:Below A0 w w':=Below.trans hw (hb.mono (Nat.le_of_lt gA0))
 clear hcell hfroz hz hb gA0 gA1 gX gY gJ
 obtain ⟨V5,rfl⟩:=nm w'
 have gA0:A0<V5.heap.size:=World.block_lt_of_cell? _ _ ta0
 have gA1:A0+1<V5.heap.size:=World.block_lt_of_cell? _ _ tb0
 have gX:X<V5.heap.size:=World.block_lt_of_cell? _ _ tc0
 have gY:Y<V5.heap.size:=World.block_lt_of_cell? _ _ td0
 have gJ:J<V5.heap.size:=World.block_lt_of_cell? _ _ tj0
 go_upto_region 20 with fail
 refine n9 4 (by kernel_rfl) (by kernel_rfl) ?_
 simp only [List.take_succ_cons,List.take_zero,List.drop_succ_cons,List.drop_zero]
 repeat (first|go_big_quiet_step ((first|(go_at_call 164;(with_reducible exact Calls.regrown_of (T3.out _)))|(go_at_call 164;(with_reducible exact Calls.regrown_of (T4.out _)))))|quiet_step ((first|(go_at_call 164;(with_reducible exact Calls.regrown_of (T3.out _)))|(go_at_call 164;(with_reducible exact Calls.regrown_of (T4.out _))))))
 refine wpQuiet_nil ?_;intro w' hw';have hb:=i8 hw';clear hw';replace hb:=mU;obtain ⟨hcell,hfroz,hz,z6,z7,z8,z9,_⟩:=oH
 have ta0:=cell_later hb ta0
 have ta1:=cell_later hb ta1
 have tb0:=cell_later hb tb0
 have tb1:=cell_later hb tb1
 have tj0:=cell_later hb tj0
 have tj1:=cell_later hb tj1
 have tc0:=cell_later hb tc0
 have tc1:=cell_later hb tc1
 have td0:=cell_later hb td0
 have td1:=cell_later hb td1
 have xf:∀o,w'.frozen? ⟨X,o,none⟩=false:=fun o=>(hb.frozen (p:=⟨X,o,none⟩) gX).trans (xf o)
 have yf:∀o,w'.frozen? ⟨Y,o,none⟩=false:=fun o=>(hb.frozen (p:=⟨Y,o,none⟩) gY).trans (yf o)
 have sB:=G1 hb sB
 have hw:Below A0 w w':=Below.trans hw (hb.mono (Nat.le_of_lt gA0))
 clear hcell hfroz hz hb gA0 gA1 gX gY gJ
 obtain ⟨V6,rfl⟩:=nm w'
 have gA0:A0<V6.heap.size:=World.block_lt_of_cell? _ _ ta0
 have gA1:A0+1<V6.heap.size:=World.block_lt_of_cell? _ _ tb0
 have gX:X<V6.heap.size:=World.block_lt_of_cell? _ _ tc0
 have gY:Y<V6.heap.size:=World.block_lt_of_cell? _ _ td0
 have gJ:J<V6.heap.size:=World.block_lt_of_cell? _ _ tj0
 go_upto_region 21 with fail
 have nv:∀g,(Value.slice (some ⟨OB,0,none⟩) 1 1).ownBlock=some g->g≠X:=fun g h=>by cases h;exact nOX
 have nv':∀g,(Value.slice (some ⟨OB,0,none⟩) 1 1).ownBlock=some g->g≠Y:=fun g h=>by cases h;exact nOY
 have F:=yS (a:= .int .i64 xl) (b:= .int .i64 xh) (c:= .int .i64 yl) (d:= .int .i64 yh) nXY tc0 tc1 td0 td1
 obtain ⟨⟨tc0,tc1⟩,td0,td1⟩:=F
 have ta0:=O3 (a:= .int .i64 xl) (b:= .int .i64 xh) (c:= .int .i64 yl) (d:= .int .i64 yh) (show A0≠X by omega) (show A0≠Y by omega) ta0
 have ta1:=O3 (a:= .int .i64 xl) (b:= .int .i64 xh) (c:= .int .i64 yl) (d:= .int .i64 yh) (show A0≠X by omega) (show A0≠Y by omega) ta1
 have tb0:=O3 (a:= .int .i64 xl) (b:= .int .i64 xh) (c:= .int .i64 yl) (d:= .int .i64 yh) (show A0+1≠X by omega) (show A0+1≠Y by omega) tb0
 have tb1:=O3 (a:= .int .i64 xl) (b:= .int .i64 xh) (c:= .int .i64 yl) (d:= .int .i64 yh) (show A0+1≠X by omega) (show A0+1≠Y by omega) tb1
 have tj0:=O3 (a:= .int .i64 xl) (b:= .int .i64 xh) (c:= .int .i64 yl) (d:= .int .i64 yh) nJX nJY tj0
 have tj1:=O3 (a:= .int .i64 xl) (b:= .int .i64 xh) (c:= .int .i64 yl) (d:= .int .i64 yh) nJX nJY tj1
 have xf:=jD (X:=X) (Y:=Y) (a:= .int .i64 xl) (b:= .int .i64 xh) (c:= .int .i64 yl) (d:= .int .i64 yh) xf
 have yf:=jD (X:=X) (Y:=Y) (a:= .int .i64 xl) (b:= .int .i64 xh) (c:= .int .i64 yl) (d:= .int .i64 yh) yf
 have sB:=wX (a:= .int .i64 xl) (b:= .int .i64 xh) (c:= .int .i64 yl) (d:= .int .i64 yh) sB nv nv'
 have hw:=qV (X:=X) (Y:=Y) (a:= .int .i64 xl) (b:= .int .i64 xh) (c:= .int .i64 yl) (d:= .int .i64 yh) hw (by omega) (by omega)
 clear nv nv' gA0 gA1 gX gY gJ
 change Code.wp _ _ _ _ (mZ V6 X Y (.int .i64 xl) (.int .i64 xh) (.int .i64 yl) (.int .i64 yh))
 generalize mZ V6 X Y (.int .i64 xl) (.int .i64 xh) (.int .i64 yl) (.int .i64 yh)=V7 at*
 go_wp2
 have gA0:A0<V7.heap.size:=World.block_lt_of_cell? _ _ ta0
 have gA1:A0+1<V7.heap.size:=World.block_lt_of_cell? _ _ tb0
 have gX:X<V7.heap.size:=World.block_lt_of_cell? _ _ tc0
 have gY:Y<V7.heap.size:=World.block_lt_of_cell? _ _ td0
 have gJ:J<V7.heap.size:=World.block_lt_of_cell? _ _ tj0
 have gO:OB<V7.heap.size:=(sB.lt OB rfl).2
 rw [rounds_succ]
 go_wp2_with (at_builtin;refine wpList_append_own_at _ rfl _ _ 132 rfl OB 49 i0 (.agg #[.int .i64 0,.int .i64 0]) 2 16 Tryz.underlying132 hi hz0 hz1 hz2 rfl (by decide) _ 1 _ rfl (sB.alloc _) ⟨V7.heap.size,0,none⟩ 1 1 [.int .i64 lb,.int .i64 lob] rfl rfl (wB _ _ _ _) (EB _ _) (by decide) (by decide) (by simp;omega) ?_;intro v' w' hown hg _ _)
 have hbA:Below OB V7 w':=Below.grown ((cH (Below.refl _ V7) _).mono (Nat.le_of_lt gO)) hg (by simp;omega) (fun j hj=>(sB.lt j hj).1)
 obtain ⟨g,cap,rfl,hg1,hc2,q0,q1,q2,q3,qf⟩:=a0r hown
 clear hg hown
 go_wp2_with (go_at_call 165;((with_reducible refine (CM.out _ _ _ hc2 q0 q1 q2 q3 qf).mono ?_);rintro e w' ⟨rfl,hP,hB⟩))
 have hz:Below w.heap.size w w':=by rw [hA0];exact Below.trans hw (Below.trans (hbA.mono (by omega)) (hB A0 (by omega)))
 exact bodyPost_ret (v:= .tuple #[.slice (some ⟨g,0,none⟩) n cap,.int .i64 0]) (by first|(simp only [results,Tryz.results86];go_simp;done)|simp [results,Tryz.results86,go_sem, *]) rfl ⟨g,cap,rfl,hP,hz⟩
end Go.Proofs.YtdhbeoahpfimbaaGreat
