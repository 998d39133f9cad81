/- Part of the proof of TopDistances. -/
import Derived.Test.YtdhbeoahpfimbaaGreatPp
namespace Go.Proofs.YtdhbeoahpfimbaaGreat
open Go.RowKit
def fP (w0 w:World) (B:Nat) (d:Bool) (v0 v1 v2 v3 v4 v5:Int):Prop:=
 w0.heap.size<=B/\B<w.heap.size/\w.frozen? ⟨B,0,none⟩=false/\w.frozen? ⟨B,1,none⟩=false/\w.frozen? ⟨B,2,none⟩=false/\w.frozen? ⟨B,3,none⟩=false/\w.frozen? ⟨B,4,none⟩=false/\w.frozen? ⟨B,5,none⟩=false/\∃x0 x1 x2 x3 x4 x5,w.cell? ⟨B,0,none⟩=some x0/\w.cell? ⟨B,1,none⟩=some x1/\w.cell? ⟨B,2,none⟩=some x2/\w.cell? ⟨B,3,none⟩=some x3/\w.cell? ⟨B,4,none⟩=some x4/\w.cell? ⟨B,5,none⟩=some x5/\(d=true->x0= .int .i64 v0/\x1= .int .i64 v1/\x2= .int .i64 v2/\x3= .int .i64 v3/\x4= .int .i64 v4/\x5= .int .i64 v5)
theorem fP.later {w0 w w':World} {B:Nat} {d:Bool} {v0 v1 v2 v3 v4 v5:Int} (hb:Below w.heap.size w w') (h:fP w0 w B d v0 v1 v2 v3 v4 v5):fP w0 w' B d v0 v1 v2 v3 v4 v5:=by
 obtain ⟨h1,h2,f0,f1,f2,f3,f4,f5,x0,x1,x2,x3,x4,x5,c0,c1,c2,c3,c4,c5,h7⟩:=h
 exact ⟨h1,Nat.lt_of_lt_of_le h2 hb.size,(hb.frozen (p:=⟨B,0,none⟩) h2).trans f0,(hb.frozen (p:=⟨B,1,none⟩) h2).trans f1,(hb.frozen (p:=⟨B,2,none⟩) h2).trans f2,(hb.frozen (p:=⟨B,3,none⟩) h2).trans f3,(hb.frozen (p:=⟨B,4,none⟩) h2).trans f4,(hb.frozen (p:=⟨B,5,none⟩) h2).trans f5,x0,x1,x2,x3,x4,x5,(hb.cell (p:=⟨B,0,none⟩) h2).trans c0,(hb.cell (p:=⟨B,1,none⟩) h2).trans c1,(hb.cell (p:=⟨B,2,none⟩) h2).trans c2,(hb.cell (p:=⟨B,3,none⟩) h2).trans c3,(hb.cell (p:=⟨B,4,none⟩) h2).trans c4,(hb.cell (p:=⟨B,5,none⟩) h2).trans c5,h7⟩
theorem fP.alloc {w0 w:World} (h:Below w0.heap.size w0 w) (x0 x1 x2 x3 x4 x5:Value) (t:Nat) (d:Bool) (v0 v1 v2 v3 v4 v5:Int) (hd:d=true->false=true):fP w0 (w.alloc (Obj.cells #[x0,x1,x2,x3,x4,x5] t)) w.heap.size d v0 v1 v2 v3 v4 v5:=by
 refine ⟨h.size,by simp [go_sem],by simp [go_sem],by simp [go_sem],by simp [go_sem],by simp [go_sem],by simp [go_sem],by simp [go_sem],x0,x1,x2,x3,x4,x5,by simp [go_sem],by simp [go_sem],by simp [go_sem],by simp [go_sem],by simp [go_sem],by simp [go_sem],fun e=> ?_⟩
 have:=hd e
 cases this
theorem fP.store {w0 w:World} {B:Nat} {d:Bool} {v0 v1 v2 v3 v4 v5:Int} (u0 u1 u2 u3 u4 u5:Int) (h:fP w0 w B d v0 v1 v2 v3 v4 v5) (d':Bool):fP w0 ((((((w.setCell ⟨B,0,none⟩ (.int .i64 u0)).setCell ⟨B,1,none⟩ (.int .i64 u1)).setCell ⟨B,2,none⟩ (.int .i64 u2)).setCell ⟨B,3,none⟩ (.int .i64 u3)).setCell ⟨B,4,none⟩ (.int .i64 u4)).setCell ⟨B,5,none⟩ (.int .i64 u5)) B d' u0 u1 u2 u3 u4 u5:=by
 obtain ⟨h1,h2,f0,f1,f2,f3,f4,f5,x0,x1,x2,x3,x4,x5,c0,c1,c2,c3,c4,c5,h7⟩:=h
 refine ⟨h1,by simpa using h2,by simpa using f0,by simpa using f1,by simpa using f2,by simpa using f3,by simpa using f4,by simpa using f5,.int .i64 u0,.int .i64 u1,.int .i64 u2,.int .i64 u3,.int .i64 u4,.int .i64 u5,?_,?_,?_,?_,?_,?_,fun _=>⟨rfl,rfl,rfl,rfl,rfl,rfl⟩⟩
 ·simp [go_sem, *]
 ·simp [go_sem, *]
 ·simp [go_sem, *]
 ·simp [go_sem, *]
 ·simp [go_sem, *]
 ·simp [go_sem, *]
set_option maxRecDepth 100000 in
set_option maxHeartbeats 8000000 in
theorem a0M (la lo lb lob:Int) (w:World) (WA:CB 6 #[] (.bool true)) (WP1:CB 16 #[.agg #[.int .i64 la,.int .i64 lo]] (.bool false)):
  Calls Tryz.prog 4 #[.agg #[.int .i64 la,.int .i64 lo],.agg #[.int .i64 lb,.int .i64 lob]] w fun e w'=>e= .returned (.bool true)/\Below w.heap.size w w':=by
 unfold CB at WA WP1
 go_enter Tryz.func4,Tryz.ntmps4
 go_wp2_with (first|(go_at_call 6;((with_reducible refine am (WA.out _) ?_);intro w' hb);replace hb:=mU;obtain ⟨hcell,hfroz,hz,z6,z7,z8,z9,_⟩:=oH;obtain ⟨w1,rfl⟩:=nm w')|(go_at_call 16;((with_reducible refine am (WP1.out _) ?_);intro w' hb);replace hb:=mU;obtain ⟨hcell,hfroz,hz,z6,z7,z8,z9,_⟩:=oH;obtain ⟨w2,rfl⟩:=nm w'))
 go_ret
 exact ⟨rfl,bw⟩
set_option maxRecDepth 100000 in
set_option maxHeartbeats 8000000 in
theorem a0q (la lo lb lob:Int) (w:World) (WA:CB 6 #[] (.bool true)) (WP1:CB 16 #[.agg #[.int .i64 la,.int .i64 lo]] (.bool true)) (WP2:CB 16 #[.agg #[.int .i64 lb,.int .i64 lob]] (.bool false)):
  Calls Tryz.prog 4 #[.agg #[.int .i64 la,.int .i64 lo],.agg #[.int .i64 lb,.int .i64 lob]] w fun e w'=>e= .returned (.bool true)/\Below w.heap.size w w':=by
 unfold CB at WA WP1 WP2
 go_enter Tryz.func4,Tryz.ntmps4
 go_wp2_with (first|(go_at_call 6;((with_reducible refine am (WA.out _) ?_);intro w' hb);replace hb:=mU;obtain ⟨hcell,hfroz,hz,z6,z7,z8,z9,_⟩:=oH;obtain ⟨w1,rfl⟩:=nm w')|(go_at_call 16;((with_reducible refine am (WP1.out _) ?_);intro w' hb);replace hb:=mU;obtain ⟨hcell,hfroz,hz,z6,z7,z8,z9,_⟩:=oH;obtain ⟨w2,rfl⟩:=nm w')|(go_at_call 16;((with_reducible refine am (WP2.out _) ?_);intro w' hb);replace hb:=mU;obtain ⟨hcell,hfroz,hz,z6,z7,z8,z9,_⟩:=oH;obtain ⟨w3,rfl⟩:=nm w'))
 go_ret
 exact ⟨rfl,bw⟩
set_option maxRecDepth 100000 in
set_option maxHeartbeats 8000000 in
theorem a0X (la lo lb lob dn dl p q x y u0 u1 u2 u3 u4 u5 v0 v1 v2 v3 v4 v5 bl bh hl hh zl zh rp rq rx ry cx cy:Int) (w:World) (h1: -4800000<=la/\la<=4800000) (h2: -4800000<=lb/\lb<=4800000) (h3: -10800000<=lo/\lo<10800000) (h4: -10800000<=lob/\lob<10800000) (hdn:lob-lo=dn) (hr:x<=ry)
  (WA:CB 6 #[] (.bool true))
  (WP1:CB 16 #[.agg #[.int .i64 la,.int .i64 lo]] (.bool true))
  (WP2:CB 16 #[.agg #[.int .i64 lb,.int .i64 lob]] (.bool true))
  (GI:CB 17 #[.agg #[.int .i64 la,.int .i64 lo],.agg #[.int .i64 lb,.int .i64 lob]] (.tuple #[.agg #[.int .i64 p,.int .i64 q,.int .i64 x,.int .i64 y],.int .i64 0]))
  (O1:CB 18 #[.agg #[.int .i64 la,.int .i64 la],.agg #[.int .i64 lo,.int .i64 lo]] (.tuple #[.agg #[.int .i64 u0,.int .i64 u1,.int .i64 u2,.int .i64 u3,.int .i64 u4,.int .i64 u5],.int .i64 0]))
  (O2:CB 18 #[.agg #[.int .i64 lb,.int .i64 lb],.agg #[.int .i64 lob,.int .i64 lob]] (.tuple #[.agg #[.int .i64 v0,.int .i64 v1,.int .i64 v2,.int .i64 v3,.int .i64 v4,.int .i64 v5],.int .i64 0]))
  (VA:CB 13 #[.agg #[.int .i64 p,.int .i64 q]] (.bool true))
  (BT:CB 20 #[.agg #[.int .i64 u0,.int .i64 u1,.int .i64 u2,.int .i64 u3,.int .i64 u4,.int .i64 u5],.agg #[.int .i64 v0,.int .i64 v1,.int .i64 v2,.int .i64 v3,.int .i64 v4,.int .i64 v5]] (.tuple #[.agg #[.int .i64 bl,.int .i64 bh],.int .i64 0]))
  (M1:CB 15 #[.agg #[.int .i64 bl,.int .i64 bh],.agg #[.int .i64 x,.int .i64 y]] (.bool true))
  (SG:CB 21 #[.int .i64 dn] (.int .i64 dl))
  (SD:CB 22 #[.agg #[.int .i64 (5400000-la),.int .i64 (5400000-la)],.agg #[.int .i64 (5400000-lb),.int .i64 (5400000-lb)],.agg #[.int .i64 dl,.int .i64 dl]] (.tuple #[.agg #[.int .i64 x,.int .i64 y],.int .i64 0]))
  (M2:CB 15 #[.agg #[.int .i64 x,.int .i64 y],.agg #[.int .i64 x,.int .i64 y]] (.bool true))
  (SO:CB 23 #[.agg #[.int .i64 la,.int .i64 la,.int .i64 lb,.int .i64 lb,.int .i64 (lo-lob),.int .i64 (lo-lob)]] (.tuple #[.agg #[.int .i64 hl,.int .i64 hh,.int .i64 zl,.int .i64 zh],.int .i64 0]))
  (AD:CB 24 #[.agg #[.int .i64 hl,.int .i64 hh],.agg #[.int .i64 x,.int .i64 y]] (.agg #[.int .i64 (hl+x),.int .i64 (hh+y)]))
  (M3:CB 15 #[.agg #[.int .i64 5400000,.int .i64 5400000],.agg #[.int .i64 (hl+x),.int .i64 (hh+y)]] (.bool true))
  (AG:CB 14 #[.agg #[.int .i64 zl,.int .i64 zh],.agg #[.int .i64 p,.int .i64 q]] (.tuple #[.bool true,.int .i64 0]))
  (RI:CB 25 #[.agg #[.int .i64 la,.int .i64 lo],.agg #[.int .i64 lb,.int .i64 lob]] (.tuple #[.agg #[.int .i64 rp,.int .i64 rq,.int .i64 rx,.int .i64 ry],.int .i64 0]))
  (CD: -10200000<=dl/\dl<=10200000->CB 26 #[.agg #[.int .i64 la,.int .i64 lo],.agg #[.int .i64 lb,.int .i64 lob],.int .i64 5399999] (.tuple #[.agg #[.int .i64 cx,.int .i64 cy],.int .i64 0]))
  (M4: -10200000<=dl/\dl<=10200000->CB 15 #[.agg #[.int .i64 cx,.int .i64 cy],.agg #[.int .i64 x,.int .i64 y]] (.bool true)):
  Calls Tryz.prog 4 #[.agg #[.int .i64 la,.int .i64 lo],.agg #[.int .i64 lb,.int .i64 lob]] w fun e w'=>e= .returned (.bool true)/\Below w.heap.size w w':=by
 have WT:=b6 fun n w=>tC n w
 have W1:IntKind.i64.wrap (5400000-la)=5400000-la:=by rw [IntKind.wrap_i64];omega
 have W2:IntKind.i64.wrap (5400000-lb)=5400000-lb:=by rw [IntKind.wrap_i64];omega
 have W3:IntKind.i64.wrap (lo-lob)=lo-lob:=by rw [IntKind.wrap_i64];omega
 have W4:IntKind.i64.wrap (lob-lo)=dn:=by rw [IntKind.wrap_i64];omega
 have R1:(ry<x)=False:=eq_false (by omega)
 clear h1 h2 h3 h4 hdn hr
 unfold CB at WA WP1 WP2 GI O1 O2 VA BT M1 SG SD M2 SO AD M3 AG RI
 go_enter Tryz.func4,Tryz.ntmps4
 go_upto_region 6 with (first|(go_at_call 6;((with_reducible refine am (WA.out _) ?_);intro w' hb);replace hb:=mU;obtain ⟨hcell,hfroz,hz,z6,z7,z8,z9,_⟩:=oH;obtain ⟨w1,rfl⟩:=nm w')|(go_at_call 16;((with_reducible refine am (WP1.out _) ?_);intro w' hb);replace hb:=mU;obtain ⟨hcell,hfroz,hz,z6,z7,z8,z9,_⟩:=oH;obtain ⟨w2,rfl⟩:=nm w')|(go_at_call 16;((with_reducible refine am (WP2.out _) ?_);intro w' hb);replace hb:=mU;obtain ⟨hcell,hfroz,hz,z6,z7,z8,z9,_⟩:=oH;obtain ⟨w3,rfl⟩:=nm w')|(go_at_call 17;((with_reducible refine am (GI.out _) ?_);intro w' hb);replace hb:=mU;obtain ⟨hcell,hfroz,hz,z6,z7,z8,z9,_⟩:=oH;obtain ⟨w4,rfl⟩:=nm w'))
 (refine m9 ?_;intro w' hb;replace hb:=mU;obtain ⟨hcell,hfroz,hz,z6,z7,z8,z9,_⟩:=oH)
 have hw:Below w.heap.size w w':=bw
 have ta0:=cq w' w.heap.size 0 (la)
 have ta1:=cq w' w.heap.size 1 (lo)
 have tb0:=cq w' (w.heap.size+1) 0 (lb)
 have tb1:=cq w' (w.heap.size+1) 1 (lob)
 have tc0:=cq w' w4.heap.size 0 (p)
 have tc1:=cq w' w4.heap.size 1 (q)
 have tc2:=cq w' w4.heap.size 2 (x)
 have tc3:=cq w' w4.heap.size 3 (y)
 clear hcell hfroz hz hb
 obtain ⟨V0,rfl⟩:=nm w'
 obtain ⟨A0,hA0⟩:∃k,w.heap.size=k:=⟨_,rfl⟩
 obtain ⟨L,hL⟩:∃k,w4.heap.size=k:=⟨_,rfl⟩
 rw [hL] at tc0 tc1 tc2 tc3 ⊢
 rw [hA0] at ta0 ta1 tb0 tb1 hw ⊢
 have gA0:A0<V0.heap.size:=World.block_lt_of_cell? _ _ ta0
 refine B8 (fun a0 LL aa vv=>∃(l0 l1 l2 l3 l4 l5 l6 l7 l8 l9 l10 l11 l12:Bool) (EU:Nat),LL= #[l0,l1,l2,l3,l4,l5,l6,l7,l8,l9,l10,l11,l12]/\aa={a0 with tmps:=((((((((((((a0.tmps.setIfInBounds 36 (cond l0 (.pointer (some ⟨A0,0,none⟩)) (undef))).setIfInBounds 37 (cond l1 (.int .i64 la) (undef))).setIfInBounds 38 (cond l2 (.agg #[.int .i64 la,.int .i64 la]) (undef))).setIfInBounds 39 (cond l3 (.pointer (some ⟨A0,1,none⟩)) (undef))).setIfInBounds 40 (cond l4 (.int .i64 lo) (undef))).setIfInBounds 41 (cond l5 (.agg #[.int .i64 lo,.int .i64 lo]) (undef))).setIfInBounds 42 (cond l6 (.tuple #[.agg #[.int .i64 u0,.int .i64 u1,.int .i64 u2,.int .i64 u3,.int .i64 u4,.int .i64 u5],.int .i64 0]) (undef))).setIfInBounds 35 (cond l7 (.tuple #[.agg #[.int .i64 u0,.int .i64 u1,.int .i64 u2,.int .i64 u3,.int .i64 u4,.int .i64 u5],.int .i64 0]) (undef))).setIfInBounds 43 (cond l8 (.agg #[.int .i64 u0,.int .i64 u1,.int .i64 u2,.int .i64 u3,.int .i64 u4,.int .i64 u5]) (undef))).setIfInBounds 44 (cond l9 (.int .i64 0) (undef))).setIfInBounds 7 (cond l10 (.pointer (some ⟨EU,0,none⟩)) (undef))).setIfInBounds 8 (cond l12 (.int .i64 0) (undef)))}/\Below V0.heap.size V0 vv/\(l11=true->l10=true)/\(l10=true->fP V0 vv EU l11 (u0) (u1) (u2) (u3) (u4) (u5))) (by kernel_rfl) (by kernel_rfl) ?h0 ?hsize ?hdone ?hstep
 case h0=>
  refine ⟨false,false,false,false,false,false,false,false,false,false,false,false,false,0,rfl,?_,bv,(fun h=>by cases h),(fun h=>by cases h)⟩
  simp only [cond_false,List.setIfInBounds_toArray,List.set_cons_zero,List.set_cons_succ]
 case hsize=>
  intro LL aa vv h
  obtain ⟨l0,l1,l2,l3,l4,l5,l6,l7,l8,l9,l10,l11,l12,EU,hL,_⟩:=h
  rw [hL]
  rfl
 case hstep=>
  intro LL aa vv h
  obtain ⟨l0,l1,l2,l3,l4,l5,l6,l7,l8,l9,l10,l11,l12,EU,hL,ha,hb0,hq10,hr10⟩:=h
  simp only [List.setIfInBounds_toArray,List.set_cons_zero,List.set_cons_succ] at ha
  subst hL
  subst ha
  refine ⟨?s0,?s1,?s2,?s3,?s4,?s5,?s6,?s7,?s8,?s9,?s10,?s11,?s12,trivial⟩
  case s0=>intro ff gg KK hK;obtain rfl:l0=false:=ff;clear gg;simp only [cond_false];go_simp;exact hK _ _ ⟨_,_,_,_,_,_,_,_,_,_,_,_,_,EU,rfl,aq,hb0,hq10,hr10⟩
  case s1=>intro ff gg KK hK;obtain rfl:l0=true:=gg ⟨0,.data⟩ (by simp) rfl;obtain rfl:l1=false:=ff;clear gg;simp only [cond_true,cond_false];have cc0:vv.cell? ⟨A0,0,none⟩=some (.int .i64 la):=cell_later hb0 ta0;go_simp;exact hK _ _ ⟨_,_,_,_,_,_,_,_,_,_,_,_,_,EU,rfl,aq,hb0,hq10,hr10⟩
  case s2=>intro ff gg KK hK;obtain rfl:l1=true:=gg ⟨1,.data⟩ (by simp) rfl;obtain rfl:l2=false:=ff;clear gg;simp only [cond_true,cond_false];go_simp;((go_at_call 19;((with_reducible refine am (WT.out _ _) ?_);intro w' hb)));exact hK _ _ ⟨_,_,_,_,_,_,_,_,_,_,_,_,_,EU,rfl,aq,o5 hb hb0,hq10,(fun t=>(hr10 t).later hb)⟩
  case s3=>intro ff gg KK hK;obtain rfl:l3=false:=ff;clear gg;simp only [cond_false];go_simp;exact hK _ _ ⟨_,_,_,_,_,_,_,_,_,_,_,_,_,EU,rfl,aq,hb0,hq10,hr10⟩
  case s4=>intro ff gg KK hK;obtain rfl:l3=true:=gg ⟨3,.data⟩ (by simp) rfl;obtain rfl:l4=false:=ff;clear gg;simp only [cond_true,cond_false];have cc0:vv.cell? ⟨A0,1,none⟩=some (.int .i64 lo):=cell_later hb0 ta1;go_simp;exact hK _ _ ⟨_,_,_,_,_,_,_,_,_,_,_,_,_,EU,rfl,aq,hb0,hq10,hr10⟩
  case s5=>intro ff gg KK hK;obtain rfl:l4=true:=gg ⟨4,.data⟩ (by simp) rfl;obtain rfl:l5=false:=ff;clear gg;simp only [cond_true,cond_false];go_simp;((go_at_call 19;((with_reducible refine am (WT.out _ _) ?_);intro w' hb)));exact hK _ _ ⟨_,_,_,_,_,_,_,_,_,_,_,_,_,EU,rfl,aq,o5 hb hb0,hq10,(fun t=>(hr10 t).later hb)⟩
  case s6=>intro ff gg KK hK;obtain rfl:l2=true:=gg ⟨2,.data⟩ (by simp) rfl;obtain rfl:l5=true:=gg ⟨5,.data⟩ (by simp) rfl;obtain rfl:l6=false:=ff;clear gg;simp only [cond_true,cond_false];go_simp;((go_at_call 18;((with_reducible refine am (O1.out _) ?_);intro w' hb)));exact hK _ _ ⟨_,_,_,_,_,_,_,_,_,_,_,_,_,EU,rfl,aq,o5 hb hb0,hq10,(fun t=>(hr10 t).later hb)⟩
  case s7=>intro ff gg KK hK;obtain rfl:l6=true:=gg ⟨6,.data⟩ (by simp) rfl;obtain rfl:l7=false:=ff;clear gg;simp only [cond_true,cond_false];go_simp;exact hK _ _ ⟨_,_,_,_,_,_,_,_,_,_,_,_,_,EU,rfl,aq,hb0,hq10,hr10⟩
  case s8=>intro ff gg KK hK;obtain rfl:l7=true:=gg ⟨7,.data⟩ (by simp) rfl;obtain rfl:l8=false:=ff;clear gg;simp only [cond_true,cond_false];go_simp;exact hK _ _ ⟨_,_,_,_,_,_,_,_,_,_,_,_,_,EU,rfl,aq,hb0,hq10,hr10⟩
  case s9=>intro ff gg KK hK;obtain rfl:l7=true:=gg ⟨7,.data⟩ (by simp) rfl;obtain rfl:l9=false:=ff;clear gg;simp only [cond_true,cond_false];go_simp;exact hK _ _ ⟨_,_,_,_,_,_,_,_,_,_,_,_,_,EU,rfl,aq,hb0,hq10,hr10⟩
  case s10=>intro ff gg KK hK;obtain rfl:l10=false:=ff;clear gg;simp only [cond_false];go_simp;exact hK _ _ ⟨_,_,_,_,_,_,_,_,_,_,_,_,_,vv.heap.size,rfl,aq,bw,(fun _=>rfl),(fun _=>fP.alloc hb0 _ _ _ _ _ _ _ _ _ _ _ _ _ _ hq10)⟩
  case s11=>intro ff gg KK hK;obtain rfl:l10=true:=gg ⟨10,.data⟩ (by simp) rfl;obtain rfl:l8=true:=gg ⟨8,.data⟩ (by simp) rfl;obtain rfl:l11=false:=ff;clear gg;simp only [cond_true];obtain ⟨m1,m2,fz0,fz1,fz2,fz3,fz4,fz5,y0,y1,y2,y3,y4,y5,cz0,cz1,cz2,cz3,cz4,cz5,m7⟩:=hr10 rfl;go_simp;exact hK _ _ ⟨_,_,_,_,_,_,_,_,_,_,_,_,_,EU,rfl,aq,((((((hb0.setCell m1 _).setCell m1 _).setCell m1 _).setCell m1 _).setCell m1 _).setCell m1 _),(fun _=>rfl),(fun _=>(hr10 rfl).store _ _ _ _ _ _ _)⟩
  case s12=>intro ff gg KK hK;obtain rfl:l9=true:=gg ⟨9,.data⟩ (by simp) rfl;obtain rfl:l12=false:=ff;clear gg;simp only [cond_true,cond_false];go_simp;exact hK _ _ ⟨_,_,_,_,_,_,_,_,_,_,_,_,_,EU,rfl,aq,hb0,hq10,hr10⟩
 case hdone=>
  intro LL aa vv h hd
  obtain ⟨l0,l1,l2,l3,l4,l5,l6,l7,l8,l9,l10,l11,l12,EU,hL,ha,hb0,hq10,hr10⟩:=h
  rw [hL] at hd
  have t0:l0=true:=hd 0 (by decide)
  have t1:l1=true:=hd 1 (by decide)
  have t2:l2=true:=hd 2 (by decide)
  have t3:l3=true:=hd 3 (by decide)
  have t4:l4=true:=hd 4 (by decide)
  have t5:l5=true:=hd 5 (by decide)
  have t6:l6=true:=hd 6 (by decide)
  have t7:l7=true:=hd 7 (by decide)
  have t8:l8=true:=hd 8 (by decide)
  have t9:l9=true:=hd 9 (by decide)
  have t10:l10=true:=hd 10 (by decide)
  have t11:l11=true:=hd 11 (by decide)
  have t12:l12=true:=hd 12 (by decide)
  clear hd hL hq10
  subst t0 t1 t2 t3 t4 t5 t6 t7 t8 t9 t10 t11 t12
  simp only [cond_true,List.setIfInBounds_toArray,List.set_cons_zero,List.set_cons_succ] at ha
  subst ha
  obtain ⟨EUg,EUl,EUf0,EUf1,EUf2,EUf3,EUf4,EUf5,y0,y1,y2,y3,y4,y5,EUc0,EUc1,EUc2,EUc3,EUc4,EUc5,hy⟩:=hr10 rfl
  obtain ⟨rfl,rfl,rfl,rfl,rfl,rfl⟩:=hy rfl
  clear hr10
  have tu0:=EUc0
  have tu1:=EUc1
  have tu2:=EUc2
  have tu3:=EUc3
  have tu4:=EUc4
  have tu5:=EUc5
  have ta0:=cell_later hb0 ta0
  have ta1:=cell_later hb0 ta1
  have tb0:=cell_later hb0 tb0
  have tb1:=cell_later hb0 tb1
  have tc0:=cell_later hb0 tc0
  have tc1:=cell_later hb0 tc1
  have tc2:=cell_later hb0 tc2
  have tc3:=cell_later hb0 tc3
  have hw:Below A0 w vv:=Below.trans hw (hb0.mono (Nat.le_of_lt gA0))
  have g9:V0.heap.size<=vv.heap.size:=hb0.size
  clear hb0 g9 gA0
  obtain ⟨V1,rfl⟩:∃v,v=vv:=⟨_,rfl⟩
  have gA0:A0<V1.heap.size:=World.block_lt_of_cell? _ _ ta0
  go_upto_region 7 with fail
  refine B8 (fun a0 LL aa vv=>∃(l0 l1 l2 l3 l4 l5 l6 l7 l8 l9 l10 l11 l12:Bool) (EV:Nat),LL= #[l0,l1,l2,l3,l4,l5,l6,l7,l8,l9,l10,l11,l12]/\aa={a0 with tmps:=((((((((((((a0.tmps.setIfInBounds 46 (cond l0 (.pointer (some ⟨A0+1,0,none⟩)) (undef))).setIfInBounds 47 (cond l1 (.int .i64 lb) (undef))).setIfInBounds 48 (cond l2 (.agg #[.int .i64 lb,.int .i64 lb]) (undef))).setIfInBounds 49 (cond l3 (.pointer (some ⟨A0+1,1,none⟩)) (undef))).setIfInBounds 50 (cond l4 (.int .i64 lob) (undef))).setIfInBounds 51 (cond l5 (.agg #[.int .i64 lob,.int .i64 lob]) (undef))).setIfInBounds 52 (cond l6 (.tuple #[.agg #[.int .i64 v0,.int .i64 v1,.int .i64 v2,.int .i64 v3,.int .i64 v4,.int .i64 v5],.int .i64 0]) (undef))).setIfInBounds 45 (cond l7 (.tuple #[.agg #[.int .i64 v0,.int .i64 v1,.int .i64 v2,.int .i64 v3,.int .i64 v4,.int .i64 v5],.int .i64 0]) (undef))).setIfInBounds 53 (cond l8 (.agg #[.int .i64 v0,.int .i64 v1,.int .i64 v2,.int .i64 v3,.int .i64 v4,.int .i64 v5]) (undef))).setIfInBounds 54 (cond l9 (.int .i64 0) (undef))).setIfInBounds 9 (cond l10 (.pointer (some ⟨EV,0,none⟩)) (undef))).setIfInBounds 10 (cond l12 (.int .i64 0) (undef)))}/\Below V1.heap.size V1 vv/\(l11=true->l10=true)/\(l10=true->fP V1 vv EV l11 (v0) (v1) (v2) (v3) (v4) (v5))) (by kernel_rfl) (by kernel_rfl) ?h0 ?hsize ?hdone ?hstep
  case h0=>
   refine ⟨false,false,false,false,false,false,false,false,false,false,false,false,false,0,rfl,?_,bv,(fun h=>by cases h),(fun h=>by cases h)⟩
   simp only [cond_false,List.setIfInBounds_toArray,List.set_cons_zero,List.set_cons_succ]
  case hsize=>
   intro LL aa vv h
   obtain ⟨l0,l1,l2,l3,l4,l5,l6,l7,l8,l9,l10,l11,l12,EV,hL,_⟩:=h
   rw [hL]
   rfl
  case hstep=>
   intro LL aa vv h
   obtain ⟨l0,l1,l2,l3,l4,l5,l6,l7,l8,l9,l10,l11,l12,EV,hL,ha,hb0,hq10,hr10⟩:=h
   simp only [List.setIfInBounds_toArray,List.set_cons_zero,List.set_cons_succ] at ha
   subst hL
   subst ha
   refine ⟨?s0,?s1,?s2,?s3,?s4,?s5,?s6,?s7,?s8,?s9,?s10,?s11,?s12,trivial⟩
   case s0=>intro ff gg KK hK;obtain rfl:l0=false:=ff;clear gg;simp only [cond_false];go_simp;exact hK _ _ ⟨_,_,_,_,_,_,_,_,_,_,_,_,_,EV,rfl,aq,hb0,hq10,hr10⟩
   case s1=>intro ff gg KK hK;obtain rfl:l0=true:=gg ⟨0,.data⟩ (by simp) rfl;obtain rfl:l1=false:=ff;clear gg;simp only [cond_true,cond_false];have cc0:vv.cell? ⟨A0+1,0,none⟩=some (.int .i64 lb):=cell_later hb0 tb0;go_simp;exact hK _ _ ⟨_,_,_,_,_,_,_,_,_,_,_,_,_,EV,rfl,aq,hb0,hq10,hr10⟩
   case s2=>intro ff gg KK hK;obtain rfl:l1=true:=gg ⟨1,.data⟩ (by simp) rfl;obtain rfl:l2=false:=ff;clear gg;simp only [cond_true,cond_false];go_simp;((go_at_call 19;((with_reducible refine am (WT.out _ _) ?_);intro w' hb)));exact hK _ _ ⟨_,_,_,_,_,_,_,_,_,_,_,_,_,EV,rfl,aq,o5 hb hb0,hq10,(fun t=>(hr10 t).later hb)⟩
   case s3=>intro ff gg KK hK;obtain rfl:l3=false:=ff;clear gg;simp only [cond_false];go_simp;exact hK _ _ ⟨_,_,_,_,_,_,_,_,_,_,_,_,_,EV,rfl,aq,hb0,hq10,hr10⟩
   case s4=>intro ff gg KK hK;obtain rfl:l3=true:=gg ⟨3,.data⟩ (by simp) rfl;obtain rfl:l4=false:=ff;clear gg;simp only [cond_true,cond_false];have cc0:vv.cell? ⟨A0+1,1,none⟩=some (.int .i64 lob):=cell_later hb0 tb1;go_simp;exact hK _ _ ⟨_,_,_,_,_,_,_,_,_,_,_,_,_,EV,rfl,aq,hb0,hq10,hr10⟩
   case s5=>intro ff gg KK hK;obtain rfl:l4=true:=gg ⟨4,.data⟩ (by simp) rfl;obtain rfl:l5=false:=ff;clear gg;simp only [cond_true,cond_false];go_simp;((go_at_call 19;((with_reducible refine am (WT.out _ _) ?_);intro w' hb)));exact hK _ _ ⟨_,_,_,_,_,_,_,_,_,_,_,_,_,EV,rfl,aq,o5 hb hb0,hq10,(fun t=>(hr10 t).later hb)⟩
   case s6=>intro ff gg KK hK;obtain rfl:l2=true:=gg ⟨2,.data⟩ (by simp) rfl;obtain rfl:l5=true:=gg ⟨5,.data⟩ (by simp) rfl;obtain rfl:l6=false:=ff;clear gg;simp only [cond_true,cond_false];go_simp;((go_at_call 18;((with_reducible refine am (O2.out _) ?_);intro w' hb)));exact hK _ _ ⟨_,_,_,_,_,_,_,_,_,_,_,_,_,EV,rfl,aq,o5 hb hb0,hq10,(fun t=>(hr10 t).later hb)⟩
   case s7=>intro ff gg KK hK;obtain rfl:l6=true:=gg ⟨6,.data⟩ (by simp) rfl;obtain rfl:l7=false:=ff;clear gg;simp only [cond_true,cond_false];go_simp;exact hK _ _ ⟨_,_,_,_,_,_,_,_,_,_,_,_,_,EV,rfl,aq,hb0,hq10,hr10⟩
   case s8=>intro ff gg KK hK;obtain rfl:l7=true:=gg ⟨7,.data⟩ (by simp) rfl;obtain rfl:l8=false:=ff;clear gg;simp only [cond_true,cond_false];go_simp;exact hK _ _ ⟨_,_,_,_,_,_,_,_,_,_,_,_,_,EV,rfl,aq,hb0,hq10,hr10⟩
   case s9=>intro ff gg KK hK;obtain rfl:l7=true:=gg ⟨7,.data⟩ (by simp) rfl;obtain rfl:l9=false:=ff;clear gg;simp only [cond_true,cond_false];go_simp;exact hK _ _ ⟨_,_,_,_,_,_,_,_,_,_,_,_,_,EV,rfl,aq,hb0,hq10,hr10⟩
   case s10=>intro ff gg KK hK;obtain rfl:l10=false:=ff;clear gg;simp only [cond_false];go_simp;exact hK _ _ ⟨_,_,_,_,_,_,_,_,_,_,_,_,_,vv.heap.size,rfl,aq,bw,(fun _=>rfl),(fun _=>fP.alloc hb0 _ _ _ _ _ _ _ _ _ _ _ _ _ _ hq10)⟩
   case s11=>intro ff gg KK hK;obtain rfl:l10=true:=gg ⟨10,.data⟩ (by simp) rfl;obtain rfl:l8=true:=gg ⟨8,.data⟩ (by simp) rfl;obtain rfl:l11=false:=ff;clear gg;simp only [cond_true];obtain ⟨m1,m2,fz0,fz1,fz2,fz3,fz4,fz5,y0,y1,y2,y3,y4,y5,cz0,cz1,cz2,cz3,cz4,cz5,m7⟩:=hr10 rfl;go_simp;exact hK _ _ ⟨_,_,_,_,_,_,_,_,_,_,_,_,_,EV,rfl,aq,((((((hb0.setCell m1 _).setCell m1 _).setCell m1 _).setCell m1 _).setCell m1 _).setCell m1 _),(fun _=>rfl),(fun _=>(hr10 rfl).store _ _ _ _ _ _ _)⟩
   case s12=>intro ff gg KK hK;obtain rfl:l9=true:=gg ⟨9,.data⟩ (by simp) rfl;obtain rfl:l12=false:=ff;clear gg;simp only [cond_true,cond_false];go_simp;exact hK _ _ ⟨_,_,_,_,_,_,_,_,_,_,_,_,_,EV,rfl,aq,hb0,hq10,hr10⟩
  case hdone=>
   intro LL aa vv h hd
   obtain ⟨l0,l1,l2,l3,l4,l5,l6,l7,l8,l9,l10,l11,l12,EV,hL,ha,hb0,hq10,hr10⟩:=h
   rw [hL] at hd
   have t0:l0=true:=hd 0 (by decide)
   have t1:l1=true:=hd 1 (by decide)
   have t2:l2=true:=hd 2 (by decide)
   have t3:l3=true:=hd 3 (by decide)
   have t4:l4=true:=hd 4 (by decide)
   have t5:l5=true:=hd 5 (by decide)
   have t6:l6=true:=hd 6 (by decide)
   have t7:l7=true:=hd 7 (by decide)
   have t8:l8=true:=hd 8 (by decide)
   have t9:l9=true:=hd 9 (by decide)
   have t10:l10=true:=hd 10 (by decide)
   have t11:l11=true:=hd 11 (by decide)
   have t12:l12=true:=hd 12 (by decide)
   clear hd hL hq10
   subst t0 t1 t2 t3 t4 t5 t6 t7 t8 t9 t10 t11 t12
   simp only [cond_true,List.setIfInBounds_toArray,List.set_cons_zero,List.set_cons_succ] at ha
   subst ha
   obtain ⟨EVg,EVl,EVf0,EVf1,EVf2,EVf3,EVf4,EVf5,y0,y1,y2,y3,y4,y5,EVc0,EVc1,EVc2,EVc3,EVc4,EVc5,hy⟩:=hr10 rfl
   obtain ⟨rfl,rfl,rfl,rfl,rfl,rfl⟩:=hy rfl
   clear hr10
   have tv0:=EVc0
   have tv1:=EVc1
   have tv2:=EVc2
   have tv3:=EVc3
   have tv4:=EVc4
   have tv5:=EVc5
   have ta0:=cell_later hb0 ta0
   have ta1:=cell_later hb0 ta1
   have tb0:=cell_later hb0 tb0
   have tb1:=cell_later hb0 tb1
   have tc0:=cell_later hb0 tc0
   have tc1:=cell_later hb0 tc1
   have tc2:=cell_later hb0 tc2
   have tc3:=cell_later hb0 tc3
   have tu0:=cell_later hb0 tu0
   have tu1:=cell_later hb0 tu1
   have tu2:=cell_later hb0 tu2
   have tu3:=cell_later hb0 tu3
   have tu4:=cell_later hb0 tu4
   have tu5:=cell_later hb0 tu5
   have hw:Below A0 w vv:=Below.trans hw (hb0.mono (Nat.le_of_lt gA0))
   have g9:V1.heap.size<=vv.heap.size:=hb0.size
   clear hb0 g9 gA0
   obtain ⟨V2,rfl⟩:∃v,v=vv:=⟨_,rfl⟩
   have gA0:A0<V2.heap.size:=World.block_lt_of_cell? _ _ ta0
   have gA1:A0+1<V2.heap.size:=World.block_lt_of_cell? _ _ tb0
   have gL:L<V2.heap.size:=World.block_lt_of_cell? _ _ tc0
   have gEU:EU<V2.heap.size:=World.block_lt_of_cell? _ _ tu0
   have gEV:EV<V2.heap.size:=World.block_lt_of_cell? _ _ tv0
   go_upto_region 14 with (first|(go_at_call 13;((with_reducible refine am (VA.out _) ?_);intro w' hb);replace hb:=mU;obtain ⟨hcell,hfroz,hz,z6,z7,z8,z9,_⟩:=oH;(try have bA:A0<w'.heap.size:=by omega);(try have cA:A0<w'.heap.size+1:=by omega);(try have bB:A0+1<w'.heap.size:=by omega);(try have cB:A0+1<w'.heap.size+1:=by omega);(try have bL:L<w'.heap.size:=by omega);(try have cL:L<w'.heap.size+1:=by omega);(try have bU:EU<w'.heap.size:=by omega);(try have cU:EU<w'.heap.size+1:=by omega);(try have bV:EV<w'.heap.size:=by omega);(try have cV:EV<w'.heap.size+1:=by omega);(try have bS:ES<w'.heap.size:=by omega);(try have cS:ES<w'.heap.size+1:=by omega);(try have bZ:EZ<w'.heap.size:=by omega);(try have cZ:EZ<w'.heap.size+1:=by omega);obtain ⟨w1,rfl⟩:=nm w')|(go_at_call 20;((with_reducible refine am (BT.out _) ?_);intro w' hb);replace hb:=mU;obtain ⟨hcell,hfroz,hz,z6,z7,z8,z9,_⟩:=oH;(try have bA:A0<w'.heap.size:=by omega);(try have cA:A0<w'.heap.size+1:=by omega);(try have bB:A0+1<w'.heap.size:=by omega);(try have cB:A0+1<w'.heap.size+1:=by omega);(try have bL:L<w'.heap.size:=by omega);(try have cL:L<w'.heap.size+1:=by omega);(try have bU:EU<w'.heap.size:=by omega);(try have cU:EU<w'.heap.size+1:=by omega);(try have bV:EV<w'.heap.size:=by omega);(try have cV:EV<w'.heap.size+1:=by omega);(try have bS:ES<w'.heap.size:=by omega);(try have cS:ES<w'.heap.size+1:=by omega);(try have bZ:EZ<w'.heap.size:=by omega);(try have cZ:EZ<w'.heap.size+1:=by omega);obtain ⟨w2,rfl⟩:=nm w')|(go_at_call 15;((with_reducible refine am (M1.out _) ?_);intro w' hb);replace hb:=mU;obtain ⟨hcell,hfroz,hz,z6,z7,z8,z9,_⟩:=oH;(try have bA:A0<w'.heap.size:=by omega);(try have cA:A0<w'.heap.size+1:=by omega);(try have bB:A0+1<w'.heap.size:=by omega);(try have cB:A0+1<w'.heap.size+1:=by omega);(try have bL:L<w'.heap.size:=by omega);(try have cL:L<w'.heap.size+1:=by omega);(try have bU:EU<w'.heap.size:=by omega);(try have cU:EU<w'.heap.size+1:=by omega);(try have bV:EV<w'.heap.size:=by omega);(try have cV:EV<w'.heap.size+1:=by omega);(try have bS:ES<w'.heap.size:=by omega);(try have cS:ES<w'.heap.size+1:=by omega);(try have bZ:EZ<w'.heap.size:=by omega);(try have cZ:EZ<w'.heap.size+1:=by omega);obtain ⟨w3,rfl⟩:=nm w')|(go_at_call 21;((with_reducible refine am (SG.out _) ?_);intro w' hb);replace hb:=mU;obtain ⟨hcell,hfroz,hz,z6,z7,z8,z9,_⟩:=oH;(try have bA:A0<w'.heap.size:=by omega);(try have cA:A0<w'.heap.size+1:=by omega);(try have bB:A0+1<w'.heap.size:=by omega);(try have cB:A0+1<w'.heap.size+1:=by omega);(try have bL:L<w'.heap.size:=by omega);(try have cL:L<w'.heap.size+1:=by omega);(try have bU:EU<w'.heap.size:=by omega);(try have cU:EU<w'.heap.size+1:=by omega);(try have bV:EV<w'.heap.size:=by omega);(try have cV:EV<w'.heap.size+1:=by omega);(try have bS:ES<w'.heap.size:=by omega);(try have cS:ES<w'.heap.size+1:=by omega);(try have bZ:EZ<w'.heap.size:=by omega);(try have cZ:EZ<w'.heap.size+1:=by omega);obtain ⟨w5,rfl⟩:=nm w'))
   (refine m9 ?_;intro w' hb;replace hb:=mU;obtain ⟨hcell,hfroz,hz,z6,z7,z8,z9,_⟩:=oH)
   have hwb:Below V2.heap.size V2 w':=bw
   have ta0:=cell_later hwb ta0
   have ta1:=cell_later hwb ta1
   have tb0:=cell_later hwb tb0
   have tb1:=cell_later hwb tb1
   have tc0:=cell_later hwb tc0
   have tc1:=cell_later hwb tc1
   have tc2:=cell_later hwb tc2
   have tc3:=cell_later hwb tc3
   have hw:Below A0 w w':=Below.trans hw (hwb.mono (Nat.le_of_lt gA0))
   clear hcell hfroz hz hb hwb gA0 gA1 gL gEU gEV tu0 tu1 tu2 tu3 tu4 tu5 tv0 tv1 tv2 tv3 tv4 tv5
   obtain ⟨V3,rfl⟩:=nm w'
   have gA0:A0<V3.heap.size:=World.block_lt_of_cell? _ _ ta0
   refine B8 (fun a0 LL aa vv=>∃(l0 l1 l2 l3 l4 l5 l6 l7 l8 l9 l10 l11 l12 l13 l14 l15 l16:Bool) (ES:Nat),LL= #[l0,l1,l2,l3,l4,l5,l6,l7,l8,l9,l10,l11,l12,l13,l14,l15,l16]/\aa={a0 with tmps:=((((((((((((((((a0.tmps.setIfInBounds 93 (cond l0 (.pointer (some ⟨A0,0,none⟩)) (undef))).setIfInBounds 94 (cond l1 (.int .i64 la) (undef))).setIfInBounds 95 (cond l2 (.int .i64 (5400000-la)) (undef))).setIfInBounds 96 (cond l3 (.agg #[.int .i64 (5400000-la),.int .i64 (5400000-la)]) (undef))).setIfInBounds 97 (cond l4 (.pointer (some ⟨A0+1,0,none⟩)) (undef))).setIfInBounds 98 (cond l5 (.int .i64 lb) (undef))).setIfInBounds 99 (cond l6 (.int .i64 (5400000-lb)) (undef))).setIfInBounds 100 (cond l7 (.agg #[.int .i64 (5400000-lb),.int .i64 (5400000-lb)]) (undef))).setIfInBounds 101 (cond l8 (.int .i64 dl) (undef))).setIfInBounds 102 (cond l9 (.agg #[.int .i64 dl,.int .i64 dl]) (undef))).setIfInBounds 103 (cond l10 (.tuple #[.agg #[.int .i64 x,.int .i64 y],.int .i64 0]) (undef))).setIfInBounds 92 (cond l11 (.tuple #[.agg #[.int .i64 x,.int .i64 y],.int .i64 0]) (undef))).setIfInBounds 104 (cond l12 (.agg #[.int .i64 x,.int .i64 y]) (undef))).setIfInBounds 105 (cond l13 (.int .i64 0) (undef))).setIfInBounds 13 (cond l14 (.pointer (some ⟨ES,0,none⟩)) (undef))).setIfInBounds 6 (.int .i64 0))}/\Below V3.heap.size V3 vv/\(l15=true->l14=true)/\(l14=true->L8 V3 vv ES l15 (x) (y))) (by kernel_rfl) (by kernel_rfl) ?h0 ?hsize ?hdone ?hstep
   case h0=>
    refine ⟨false,false,false,false,false,false,false,false,false,false,false,false,false,false,false,false,false,0,rfl,?_,bv,(fun h=>by cases h),(fun h=>by cases h)⟩
    simp only [cond_false,List.setIfInBounds_toArray,List.set_cons_zero,List.set_cons_succ]
   case hsize=>
    intro LL aa vv h
    obtain ⟨l0,l1,l2,l3,l4,l5,l6,l7,l8,l9,l10,l11,l12,l13,l14,l15,l16,ES,hL,_⟩:=h
    rw [hL]
    rfl
   case hstep=>
    intro LL aa vv h
    obtain ⟨l0,l1,l2,l3,l4,l5,l6,l7,l8,l9,l10,l11,l12,l13,l14,l15,l16,ES,hL,ha,hb0,hq14,hr14⟩:=h
    simp only [List.setIfInBounds_toArray,List.set_cons_zero,List.set_cons_succ] at ha
    subst hL
    subst ha
    refine ⟨?s0,?s1,?s2,?s3,?s4,?s5,?s6,?s7,?s8,?s9,?s10,?s11,?s12,?s13,?s14,?s15,?s16,trivial⟩
    case s0=>intro ff gg KK hK;obtain rfl:l0=false:=ff;clear gg;simp only [cond_false];go_simp;exact hK _ _ ⟨_,_,_,_,_,_,_,_,_,_,_,_,_,_,_,_,_,ES,rfl,aq,hb0,hq14,hr14⟩
    case s1=>intro ff gg KK hK;obtain rfl:l0=true:=gg ⟨0,.data⟩ (by simp) rfl;obtain rfl:l1=false:=ff;clear gg;simp only [cond_true,cond_false];have cc0:vv.cell? ⟨A0,0,none⟩=some (.int .i64 la):=cell_later hb0 ta0;go_simp;exact hK _ _ ⟨_,_,_,_,_,_,_,_,_,_,_,_,_,_,_,_,_,ES,rfl,aq,hb0,hq14,hr14⟩
    case s2=>intro ff gg KK hK;obtain rfl:l1=true:=gg ⟨1,.data⟩ (by simp) rfl;obtain rfl:l2=false:=ff;clear gg;simp only [cond_true,cond_false];go_simp;exact hK _ _ ⟨_,_,_,_,_,_,_,_,_,_,_,_,_,_,_,_,_,ES,rfl,aq,hb0,hq14,hr14⟩
    case s3=>intro ff gg KK hK;obtain rfl:l2=true:=gg ⟨2,.data⟩ (by simp) rfl;obtain rfl:l3=false:=ff;clear gg;simp only [cond_true,cond_false];go_simp;((go_at_call 19;((with_reducible refine am (WT.out _ _) ?_);intro w' hb)));exact hK _ _ ⟨_,_,_,_,_,_,_,_,_,_,_,_,_,_,_,_,_,ES,rfl,aq,o5 hb hb0,hq14,(fun t=>(hr14 t).later hb)⟩
    case s4=>intro ff gg KK hK;obtain rfl:l4=false:=ff;clear gg;simp only [cond_false];go_simp;exact hK _ _ ⟨_,_,_,_,_,_,_,_,_,_,_,_,_,_,_,_,_,ES,rfl,aq,hb0,hq14,hr14⟩
    case s5=>intro ff gg KK hK;obtain rfl:l4=true:=gg ⟨4,.data⟩ (by simp) rfl;obtain rfl:l5=false:=ff;clear gg;simp only [cond_true,cond_false];have cc0:vv.cell? ⟨A0+1,0,none⟩=some (.int .i64 lb):=cell_later hb0 tb0;go_simp;exact hK _ _ ⟨_,_,_,_,_,_,_,_,_,_,_,_,_,_,_,_,_,ES,rfl,aq,hb0,hq14,hr14⟩
    case s6=>intro ff gg KK hK;obtain rfl:l5=true:=gg ⟨5,.data⟩ (by simp) rfl;obtain rfl:l6=false:=ff;clear gg;simp only [cond_true,cond_false];go_simp;exact hK _ _ ⟨_,_,_,_,_,_,_,_,_,_,_,_,_,_,_,_,_,ES,rfl,aq,hb0,hq14,hr14⟩
    case s7=>intro ff gg KK hK;obtain rfl:l6=true:=gg ⟨6,.data⟩ (by simp) rfl;obtain rfl:l7=false:=ff;clear gg;simp only [cond_true,cond_false];go_simp;((go_at_call 19;((with_reducible refine am (WT.out _ _) ?_);intro w' hb)));exact hK _ _ ⟨_,_,_,_,_,_,_,_,_,_,_,_,_,_,_,_,_,ES,rfl,aq,o5 hb hb0,hq14,(fun t=>(hr14 t).later hb)⟩
    case s8=>intro ff gg KK hK;obtain rfl:l8=false:=ff;clear gg;simp only [cond_false];go_simp;exact hK _ _ ⟨_,_,_,_,_,_,_,_,_,_,_,_,_,_,_,_,_,ES,rfl,aq,hb0,hq14,hr14⟩
    case s9=>intro ff gg KK hK;obtain rfl:l8=true:=gg ⟨8,.data⟩ (by simp) rfl;obtain rfl:l9=false:=ff;clear gg;simp only [cond_true,cond_false];go_simp;((go_at_call 19;((with_reducible refine am (WT.out _ _) ?_);intro w' hb)));exact hK _ _ ⟨_,_,_,_,_,_,_,_,_,_,_,_,_,_,_,_,_,ES,rfl,aq,o5 hb hb0,hq14,(fun t=>(hr14 t).later hb)⟩
    case s10=>intro ff gg KK hK;obtain rfl:l3=true:=gg ⟨3,.data⟩ (by simp) rfl;obtain rfl:l7=true:=gg ⟨7,.data⟩ (by simp) rfl;obtain rfl:l9=true:=gg ⟨9,.data⟩ (by simp) rfl;obtain rfl:l10=false:=ff;clear gg;simp only [cond_true,cond_false];go_simp;((go_at_call 22;((with_reducible refine am (SD.out _) ?_);intro w' hb)));exact hK _ _ ⟨_,_,_,_,_,_,_,_,_,_,_,_,_,_,_,_,_,ES,rfl,aq,o5 hb hb0,hq14,(fun t=>(hr14 t).later hb)⟩
    case s11=>intro ff gg KK hK;obtain rfl:l10=true:=gg ⟨10,.data⟩ (by simp) rfl;obtain rfl:l11=false:=ff;clear gg;simp only [cond_true,cond_false];go_simp;exact hK _ _ ⟨_,_,_,_,_,_,_,_,_,_,_,_,_,_,_,_,_,ES,rfl,aq,hb0,hq14,hr14⟩
    case s12=>intro ff gg KK hK;obtain rfl:l11=true:=gg ⟨11,.data⟩ (by simp) rfl;obtain rfl:l12=false:=ff;clear gg;simp only [cond_true,cond_false];go_simp;exact hK _ _ ⟨_,_,_,_,_,_,_,_,_,_,_,_,_,_,_,_,_,ES,rfl,aq,hb0,hq14,hr14⟩
    case s13=>intro ff gg KK hK;obtain rfl:l11=true:=gg ⟨11,.data⟩ (by simp) rfl;obtain rfl:l13=false:=ff;clear gg;simp only [cond_true,cond_false];go_simp;exact hK _ _ ⟨_,_,_,_,_,_,_,_,_,_,_,_,_,_,_,_,_,ES,rfl,aq,hb0,hq14,hr14⟩
    case s14=>intro ff gg KK hK;obtain rfl:l14=false:=ff;clear gg;simp only [cond_false];go_simp;exact hK _ _ ⟨_,_,_,_,_,_,_,_,_,_,_,_,_,_,_,_,_,vv.heap.size,rfl,aq,bw,(fun _=>rfl),(fun _=>L8.alloc hb0 _ _ _ _ _ _ hq14)⟩
    case s15=>intro ff gg KK hK;obtain rfl:l14=true:=gg ⟨14,.data⟩ (by simp) rfl;obtain rfl:l12=true:=gg ⟨12,.data⟩ (by simp) rfl;obtain rfl:l15=false:=ff;clear gg;simp only [cond_true];obtain ⟨m1,m2,fz0,fz1,y0,y1,cz0,cz1,m7⟩:=hr14 rfl;go_simp;exact hK _ _ ⟨_,_,_,_,_,_,_,_,_,_,_,_,_,_,_,_,_,ES,rfl,aq,((hb0.setCell m1 _).setCell m1 _),(fun _=>rfl),(fun _=>(hr14 rfl).store _ _ _)⟩
    case s16=>intro ff gg KK hK;obtain rfl:l13=true:=gg ⟨13,.data⟩ (by simp) rfl;obtain rfl:l16=false:=ff;clear gg;simp only [cond_true];go_simp;exact hK _ _ ⟨_,_,_,_,_,_,_,_,_,_,_,_,_,_,_,_,_,ES,rfl,aq,hb0,hq14,hr14⟩
   case hdone=>
    intro LL aa vv h hd
    obtain ⟨l0,l1,l2,l3,l4,l5,l6,l7,l8,l9,l10,l11,l12,l13,l14,l15,l16,ES,hL,ha,hb0,hq14,hr14⟩:=h
    rw [hL] at hd
    have t0:l0=true:=hd 0 (by decide)
    have t1:l1=true:=hd 1 (by decide)
    have t2:l2=true:=hd 2 (by decide)
    have t3:l3=true:=hd 3 (by decide)
    have t4:l4=true:=hd 4 (by decide)
    have t5:l5=true:=hd 5 (by decide)
    have t6:l6=true:=hd 6 (by decide)
    have t7:l7=true:=hd 7 (by decide)
    have t8:l8=true:=hd 8 (by decide)
    have t9:l9=true:=hd 9 (by decide)
    have t10:l10=true:=hd 10 (by decide)
    have t11:l11=true:=hd 11 (by decide)
    have t12:l12=true:=hd 12 (by decide)
    have t13:l13=true:=hd 13 (by decide)
    have t14:l14=true:=hd 14 (by decide)
    have t15:l15=true:=hd 15 (by decide)
    have t16:l16=true:=hd 16 (by decide)
    clear hd hL hq14
    subst t0 t1 t2 t3 t4 t5 t6 t7 t8 t9 t10 t11 t12 t13 t14 t15 t16
    simp only [cond_true,List.setIfInBounds_toArray,List.set_cons_zero,List.set_cons_succ] at ha
    subst ha
    obtain ⟨ESg,ESl,ESf0,ESf1,y0,y1,ESc0,ESc1,hy⟩:=hr14 rfl
    obtain ⟨rfl,rfl⟩:=hy rfl
    clear hr14
    have ts0:=ESc0
    have ts1:=ESc1
    have ta0:=cell_later hb0 ta0
    have ta1:=cell_later hb0 ta1
    have tb0:=cell_later hb0 tb0
    have tb1:=cell_later hb0 tb1
    have tc0:=cell_later hb0 tc0
    have tc1:=cell_later hb0 tc1
    have tc2:=cell_later hb0 tc2
    have tc3:=cell_later hb0 tc3
    have hw:Below A0 w vv:=Below.trans hw (hb0.mono (Nat.le_of_lt gA0))
    have g9:V3.heap.size<=vv.heap.size:=hb0.size
    clear hb0 g9 gA0
    obtain ⟨V4,rfl⟩:∃v,v=vv:=⟨_,rfl⟩
    have gA0:A0<V4.heap.size:=World.block_lt_of_cell? _ _ ta0
    have gA1:A0+1<V4.heap.size:=World.block_lt_of_cell? _ _ tb0
    have gL:L<V4.heap.size:=World.block_lt_of_cell? _ _ tc0
    have gES:ES<V4.heap.size:=World.block_lt_of_cell? _ _ ts0
    go_upto_region 17 with (go_at_call 15;((with_reducible refine am (M2.out _) ?_);intro w' hb);replace hb:=mU;obtain ⟨hcell,hfroz,hz,z6,z7,z8,z9,_⟩:=oH;(try have bA:A0<w'.heap.size:=by omega);(try have cA:A0<w'.heap.size+1:=by omega);(try have bB:A0+1<w'.heap.size:=by omega);(try have cB:A0+1<w'.heap.size+1:=by omega);(try have bL:L<w'.heap.size:=by omega);(try have cL:L<w'.heap.size+1:=by omega);(try have bU:EU<w'.heap.size:=by omega);(try have cU:EU<w'.heap.size+1:=by omega);(try have bV:EV<w'.heap.size:=by omega);(try have cV:EV<w'.heap.size+1:=by omega);(try have bS:ES<w'.heap.size:=by omega);(try have cS:ES<w'.heap.size+1:=by omega);(try have bZ:EZ<w'.heap.size:=by omega);(try have cZ:EZ<w'.heap.size+1:=by omega);obtain ⟨w1,rfl⟩:=nm w')
    (refine m9 ?_;intro w' hb;replace hb:=mU;obtain ⟨hcell,hfroz,hz,z6,z7,z8,z9,_⟩:=oH)
    have hwb:Below V4.heap.size V4 w':=bw
    have ta0:=cell_later hwb ta0
    have ta1:=cell_later hwb ta1
    have tb0:=cell_later hwb tb0
    have tb1:=cell_later hwb tb1
    have tc0:=cell_later hwb tc0
    have tc1:=cell_later hwb tc1
    have tc2:=cell_later hwb tc2
    have tc3:=cell_later hwb tc3
    have hw:Below A0 w w':=Below.trans hw (hwb.mono (Nat.le_of_lt gA0))
    clear hcell hfroz hz hb hwb gA0 gA1 gL gES ts0 ts1
    obtain ⟨V5,rfl⟩:=nm w'
    have gA0:A0<V5.heap.size:=World.block_lt_of_cell? _ _ ta0
    refine B8 (fun a0 LL aa vv=>∃(l0 l1 l2 l3 l4 l5 l6 l7 l8 l9 l10 l11 l12 l13 l14 l15 l16 l17 l18 l19:Bool) (EZ:Nat),LL= #[l0,l1,l2,l3,l4,l5,l6,l7,l8,l9,l10,l11,l12,l13,l14,l15,l16,l17,l18,l19]/\aa={a0 with tmps:=(((((((((((((((((((a0.tmps.setIfInBounds 116 (cond l0 (.pointer (some ⟨A0,0,none⟩)) (undef))).setIfInBounds 117 (cond l1 (.int .i64 la) (undef))).setIfInBounds 118 (cond l2 (.agg #[.int .i64 la,.int .i64 la]) (undef))).setIfInBounds 119 (cond l3 (.pointer (some ⟨A0+1,0,none⟩)) (undef))).setIfInBounds 120 (cond l4 (.int .i64 lb) (undef))).setIfInBounds 121 (cond l5 (.agg #[.int .i64 lb,.int .i64 lb]) (undef))).setIfInBounds 122 (cond l6 (.pointer (some ⟨A0,1,none⟩)) (undef))).setIfInBounds 123 (cond l7 (.int .i64 lo) (undef))).setIfInBounds 124 (cond l8 (.pointer (some ⟨A0+1,1,none⟩)) (undef))).setIfInBounds 125 (cond l9 (.int .i64 lob) (undef))).setIfInBounds 126 (cond l10 (.int .i64 (lo-lob)) (undef))).setIfInBounds 127 (cond l11 (.agg #[.int .i64 (lo-lob),.int .i64 (lo-lob)]) (undef))).setIfInBounds 128 (cond l12 (.agg #[.int .i64 la,.int .i64 la,.int .i64 lb,.int .i64 lb,.int .i64 (lo-lob),.int .i64 (lo-lob)]) (undef))).setIfInBounds 129 (cond l13 (.tuple #[.agg #[.int .i64 hl,.int .i64 hh,.int .i64 zl,.int .i64 zh],.int .i64 0]) (undef))).setIfInBounds 115 (cond l14 (.tuple #[.agg #[.int .i64 hl,.int .i64 hh,.int .i64 zl,.int .i64 zh],.int .i64 0]) (undef))).setIfInBounds 130 (cond l15 (.agg #[.int .i64 hl,.int .i64 hh,.int .i64 zl,.int .i64 zh]) (undef))).setIfInBounds 131 (cond l16 (.int .i64 0) (undef))).setIfInBounds 14 (cond l17 (.pointer (some ⟨EZ,0,none⟩)) (undef))).setIfInBounds 6 (.int .i64 0))}/\Below V5.heap.size V5 vv/\(l18=true->l17=true)/\(l17=true->dF V5 vv EZ l18 (hl) (hh) (zl) (zh))) (by kernel_rfl) (by kernel_rfl) ?h0 ?hsize ?hdone ?hstep
    case h0=>
     refine ⟨false,false,false,false,false,false,false,false,false,false,false,false,false,false,false,false,false,false,false,false,0,rfl,?_,bv,(fun h=>by cases h),(fun h=>by cases h)⟩
     simp only [cond_false,List.setIfInBounds_toArray,List.set_cons_zero,List.set_cons_succ]
    case hsize=>
     intro LL aa vv h
     obtain ⟨l0,l1,l2,l3,l4,l5,l6,l7,l8,l9,l10,l11,l12,l13,l14,l15,l16,l17,l18,l19,EZ,hL,_⟩:=h
     rw [hL]
     rfl
    case hstep=>
     intro LL aa vv h
     obtain ⟨l0,l1,l2,l3,l4,l5,l6,l7,l8,l9,l10,l11,l12,l13,l14,l15,l16,l17,l18,l19,EZ,hL,ha,hb0,hq17,hr17⟩:=h
     simp only [List.setIfInBounds_toArray,List.set_cons_zero,List.set_cons_succ] at ha
     subst hL
     subst ha
     refine ⟨?s0,?s1,?s2,?s3,?s4,?s5,?s6,?s7,?s8,?s9,?s10,?s11,?s12,?s13,?s14,?s15,?s16,?s17,?s18,?s19,trivial⟩
     case s0=>intro ff gg KK hK;obtain rfl:l0=false:=ff;clear gg;simp only [cond_false];go_simp;exact hK _ _ ⟨_,_,_,_,_,_,_,_,_,_,_,_,_,_,_,_,_,_,_,_,EZ,rfl,aq,hb0,hq17,hr17⟩
     case s1=>intro ff gg KK hK;obtain rfl:l0=true:=gg ⟨0,.data⟩ (by simp) rfl;obtain rfl:l1=false:=ff;clear gg;simp only [cond_true,cond_false];have cc0:vv.cell? ⟨A0,0,none⟩=some (.int .i64 la):=cell_later hb0 ta0;go_simp;exact hK _ _ ⟨_,_,_,_,_,_,_,_,_,_,_,_,_,_,_,_,_,_,_,_,EZ,rfl,aq,hb0,hq17,hr17⟩
     case s2=>intro ff gg KK hK;obtain rfl:l1=true:=gg ⟨1,.data⟩ (by simp) rfl;obtain rfl:l2=false:=ff;clear gg;simp only [cond_true,cond_false];go_simp;((go_at_call 19;((with_reducible refine am (WT.out _ _) ?_);intro w' hb)));exact hK _ _ ⟨_,_,_,_,_,_,_,_,_,_,_,_,_,_,_,_,_,_,_,_,EZ,rfl,aq,o5 hb hb0,hq17,(fun t=>(hr17 t).later hb)⟩
     case s3=>intro ff gg KK hK;obtain rfl:l3=false:=ff;clear gg;simp only [cond_false];go_simp;exact hK _ _ ⟨_,_,_,_,_,_,_,_,_,_,_,_,_,_,_,_,_,_,_,_,EZ,rfl,aq,hb0,hq17,hr17⟩
     case s4=>intro ff gg KK hK;obtain rfl:l3=true:=gg ⟨3,.data⟩ (by simp) rfl;obtain rfl:l4=false:=ff;clear gg;simp only [cond_true,cond_false];have cc0:vv.cell? ⟨A0+1,0,none⟩=some (.int .i64 lb):=cell_later hb0 tb0;go_simp;exact hK _ _ ⟨_,_,_,_,_,_,_,_,_,_,_,_,_,_,_,_,_,_,_,_,EZ,rfl,aq,hb0,hq17,hr17⟩
     case s5=>intro ff gg KK hK;obtain rfl:l4=true:=gg ⟨4,.data⟩ (by simp) rfl;obtain rfl:l5=false:=ff;clear gg;simp only [cond_true,cond_false];go_simp;((go_at_call 19;((with_reducible refine am (WT.out _ _) ?_);intro w' hb)));exact hK _ _ ⟨_,_,_,_,_,_,_,_,_,_,_,_,_,_,_,_,_,_,_,_,EZ,rfl,aq,o5 hb hb0,hq17,(fun t=>(hr17 t).later hb)⟩
     case s6=>intro ff gg KK hK;obtain rfl:l6=false:=ff;clear gg;simp only [cond_false];go_simp;exact hK _ _ ⟨_,_,_,_,_,_,_,_,_,_,_,_,_,_,_,_,_,_,_,_,EZ,rfl,aq,hb0,hq17,hr17⟩
     case s7=>intro ff gg KK hK;obtain rfl:l6=true:=gg ⟨6,.data⟩ (by simp) rfl;obtain rfl:l7=false:=ff;clear gg;simp only [cond_true,cond_false];have cc0:vv.cell? ⟨A0,1,none⟩=some (.int .i64 lo):=cell_later hb0 ta1;go_simp;exact hK _ _ ⟨_,_,_,_,_,_,_,_,_,_,_,_,_,_,_,_,_,_,_,_,EZ,rfl,aq,hb0,hq17,hr17⟩
     case s8=>intro ff gg KK hK;obtain rfl:l8=false:=ff;clear gg;simp only [cond_false];go_simp;exact hK _ _ ⟨_,_,_,_,_,_,_,_,_,_,_,_,_,_,_,_,_,_,_,_,EZ,rfl,aq,hb0,hq17,hr17⟩
     case s9=>intro ff gg KK hK;obtain rfl:l8=true:=gg ⟨8,.data⟩ (by simp) rfl;obtain rfl:l9=false:=ff;clear gg;simp only [cond_true,cond_false];have cc0:vv.cell? ⟨A0+1,1,none⟩=some (.int .i64 lob):=cell_later hb0 tb1;go_simp;exact hK _ _ ⟨_,_,_,_,_,_,_,_,_,_,_,_,_,_,_,_,_,_,_,_,EZ,rfl,aq,hb0,hq17,hr17⟩
     case s10=>intro ff gg KK hK;obtain rfl:l7=true:=gg ⟨7,.data⟩ (by simp) rfl;obtain rfl:l9=true:=gg ⟨9,.data⟩ (by simp) rfl;obtain rfl:l10=false:=ff;clear gg;simp only [cond_true,cond_false];go_simp;exact hK _ _ ⟨_,_,_,_,_,_,_,_,_,_,_,_,_,_,_,_,_,_,_,_,EZ,rfl,aq,hb0,hq17,hr17⟩
     case s11=>intro ff gg KK hK;obtain rfl:l10=true:=gg ⟨10,.data⟩ (by simp) rfl;obtain rfl:l11=false:=ff;clear gg;simp only [cond_true,cond_false];go_simp;((go_at_call 19;((with_reducible refine am (WT.out _ _) ?_);intro w' hb)));exact hK _ _ ⟨_,_,_,_,_,_,_,_,_,_,_,_,_,_,_,_,_,_,_,_,EZ,rfl,aq,o5 hb hb0,hq17,(fun t=>(hr17 t).later hb)⟩
     case s12=>intro ff gg KK hK;obtain rfl:l2=true:=gg ⟨2,.data⟩ (by simp) rfl;obtain rfl:l5=true:=gg ⟨5,.data⟩ (by simp) rfl;obtain rfl:l11=true:=gg ⟨11,.data⟩ (by simp) rfl;obtain rfl:l12=false:=ff;clear gg;simp only [cond_true,cond_false];go_simp;exact hK _ _ ⟨_,_,_,_,_,_,_,_,_,_,_,_,_,_,_,_,_,_,_,_,EZ,rfl,aq,hb0,hq17,hr17⟩
     case s13=>intro ff gg KK hK;obtain rfl:l12=true:=gg ⟨12,.data⟩ (by simp) rfl;obtain rfl:l13=false:=ff;clear gg;simp only [cond_true,cond_false];go_simp;((go_at_call 23;((with_reducible refine am (SO.out _) ?_);intro w' hb)));exact hK _ _ ⟨_,_,_,_,_,_,_,_,_,_,_,_,_,_,_,_,_,_,_,_,EZ,rfl,aq,o5 hb hb0,hq17,(fun t=>(hr17 t).later hb)⟩
     case s14=>intro ff gg KK hK;obtain rfl:l13=true:=gg ⟨13,.data⟩ (by simp) rfl;obtain rfl:l14=false:=ff;clear gg;simp only [cond_true,cond_false];go_simp;exact hK _ _ ⟨_,_,_,_,_,_,_,_,_,_,_,_,_,_,_,_,_,_,_,_,EZ,rfl,aq,hb0,hq17,hr17⟩
     case s15=>intro ff gg KK hK;obtain rfl:l14=true:=gg ⟨14,.data⟩ (by simp) rfl;obtain rfl:l15=false:=ff;clear gg;simp only [cond_true,cond_false];go_simp;exact hK _ _ ⟨_,_,_,_,_,_,_,_,_,_,_,_,_,_,_,_,_,_,_,_,EZ,rfl,aq,hb0,hq17,hr17⟩
     case s16=>intro ff gg KK hK;obtain rfl:l14=true:=gg ⟨14,.data⟩ (by simp) rfl;obtain rfl:l16=false:=ff;clear gg;simp only [cond_true,cond_false];go_simp;exact hK _ _ ⟨_,_,_,_,_,_,_,_,_,_,_,_,_,_,_,_,_,_,_,_,EZ,rfl,aq,hb0,hq17,hr17⟩
     case s17=>intro ff gg KK hK;obtain rfl:l17=false:=ff;clear gg;simp only [cond_false];go_simp;exact hK _ _ ⟨_,_,_,_,_,_,_,_,_,_,_,_,_,_,_,_,_,_,_,_,vv.heap.size,rfl,aq,bw,(fun _=>rfl),(fun _=>dF.alloc hb0 _ _ _ _ _ _ _ _ _ _ hq17)⟩
     case s18=>intro ff gg KK hK;obtain rfl:l17=true:=gg ⟨17,.data⟩ (by simp) rfl;obtain rfl:l15=true:=gg ⟨15,.data⟩ (by simp) rfl;obtain rfl:l18=false:=ff;clear gg;simp only [cond_true];obtain ⟨m1,m2,fz0,fz1,fz2,fz3,y0,y1,y2,y3,cz0,cz1,cz2,cz3,m7⟩:=hr17 rfl;go_simp;exact hK _ _ ⟨_,_,_,_,_,_,_,_,_,_,_,_,_,_,_,_,_,_,_,_,EZ,rfl,aq,((((hb0.setCell m1 _).setCell m1 _).setCell m1 _).setCell m1 _),(fun _=>rfl),(fun _=>(hr17 rfl).store _ _ _ _ _)⟩
     case s19=>intro ff gg KK hK;obtain rfl:l16=true:=gg ⟨16,.data⟩ (by simp) rfl;obtain rfl:l19=false:=ff;clear gg;simp only [cond_true];go_simp;exact hK _ _ ⟨_,_,_,_,_,_,_,_,_,_,_,_,_,_,_,_,_,_,_,_,EZ,rfl,aq,hb0,hq17,hr17⟩
    case hdone=>
     intro LL aa vv h hd
     obtain ⟨l0,l1,l2,l3,l4,l5,l6,l7,l8,l9,l10,l11,l12,l13,l14,l15,l16,l17,l18,l19,EZ,hL,ha,hb0,hq17,hr17⟩:=h
     rw [hL] at hd
     have t0:l0=true:=hd 0 (by decide)
     have t1:l1=true:=hd 1 (by decide)
     have t2:l2=true:=hd 2 (by decide)
     have t3:l3=true:=hd 3 (by decide)
     have t4:l4=true:=hd 4 (by decide)
     have t5:l5=true:=hd 5 (by decide)
     have t6:l6=true:=hd 6 (by decide)
     have t7:l7=true:=hd 7 (by decide)
     have t8:l8=true:=hd 8 (by decide)
     have t9:l9=true:=hd 9 (by decide)
     have t10:l10=true:=hd 10 (by decide)
     have t11:l11=true:=hd 11 (by decide)
     have t12:l12=true:=hd 12 (by decide)
     have t13:l13=true:=hd 13 (by decide)
     have t14:l14=true:=hd 14 (by decide)
     have t15:l15=true:=hd 15 (by decide)
     have t16:l16=true:=hd 16 (by decide)
     have t17:l17=true:=hd 17 (by decide)
     have t18:l18=true:=hd 18 (by decide)
     have t19:l19=true:=hd 19 (by decide)
     clear hd hL hq17
     subst t0 t1 t2 t3 t4 t5 t6 t7 t8 t9 t10 t11 t12 t13 t14 t15 t16 t17 t18 t19
     simp only [cond_true,List.setIfInBounds_toArray,List.set_cons_zero,List.set_cons_succ] at ha
     subst ha
     obtain ⟨EZg,EZl,EZf0,EZf1,EZf2,EZf3,y0,y1,y2,y3,EZc0,EZc1,EZc2,EZc3,hy⟩:=hr17 rfl
     obtain ⟨rfl,rfl,rfl,rfl⟩:=hy rfl
     clear hr17
     have tz0:=EZc0
     have tz1:=EZc1
     have tz2:=EZc2
     have tz3:=EZc3
     have ta0:=cell_later hb0 ta0
     have ta1:=cell_later hb0 ta1
     have tb0:=cell_later hb0 tb0
     have tb1:=cell_later hb0 tb1
     have tc0:=cell_later hb0 tc0
     have tc1:=cell_later hb0 tc1
     have tc2:=cell_later hb0 tc2
     have tc3:=cell_later hb0 tc3
     have hw:Below A0 w vv:=Below.trans hw (hb0.mono (Nat.le_of_lt gA0))
     have g9:V5.heap.size<=vv.heap.size:=hb0.size
     clear hb0 g9 gA0
     obtain ⟨V6,rfl⟩:∃v,v=vv:=⟨_,rfl⟩
     have gA0:A0<V6.heap.size:=World.block_lt_of_cell? _ _ ta0
     have gA1:A0+1<V6.heap.size:=World.block_lt_of_cell? _ _ tb0
     have gL:L<V6.heap.size:=World.block_lt_of_cell? _ _ tc0
     have gEZ:EZ<V6.heap.size:=World.block_lt_of_cell? _ _ tz0
     go_upto_region 18 with fail
     refine wp_region_quiet_below (by kernel_rfl) (by kernel_rfl) ?_
     repeat (first|go_big_quiet_step ((first|(go_at_call 19;(with_reducible exact Calls.regrown_of (WT.out _ _)))|(go_at_call 24;(with_reducible exact Calls.regrown_of (AD.out _)))|(go_at_call 15;(with_reducible exact Calls.regrown_of (M3.out _)))))|quiet_step ((first|(go_at_call 19;(with_reducible exact Calls.regrown_of (WT.out _ _)))|(go_at_call 24;(with_reducible exact Calls.regrown_of (AD.out _)))|(go_at_call 15;(with_reducible exact Calls.regrown_of (M3.out _))))))
     refine wpQuiet_nil ?_;intro w' hw';have hb:=i8 hw';clear hw';replace hb:=mU;obtain ⟨hcell,hfroz,hz,z6,z7,z8,z9,_⟩:=oH
     have ta0:=cell_later hb ta0
     have ta1:=cell_later hb ta1
     have tb0:=cell_later hb tb0
     have tb1:=cell_later hb tb1
     have tc0:=cell_later hb tc0
     have tc1:=cell_later hb tc1
     have tc2:=cell_later hb tc2
     have tc3:=cell_later hb tc3
     have tz0:=cell_later hb tz0
     have tz1:=cell_later hb tz1
     have tz2:=cell_later hb tz2
     have tz3:=cell_later hb tz3
     have hw:Below A0 w w':=Below.trans hw (hb.mono (Nat.le_of_lt gA0))
     clear hcell hfroz hz hb gA0 gA1 gL gEZ
     obtain ⟨V7,rfl⟩:=nm w'
     have gA0:A0<V7.heap.size:=World.block_lt_of_cell? _ _ ta0
     have gA1:A0+1<V7.heap.size:=World.block_lt_of_cell? _ _ tb0
     have gL:L<V7.heap.size:=World.block_lt_of_cell? _ _ tc0
     have gEZ:EZ<V7.heap.size:=World.block_lt_of_cell? _ _ tz0
     go_upto_region 26 with (first|(go_at_call 14;((with_reducible refine am (AG.out _) ?_);intro w' hb);replace hb:=mU;obtain ⟨hcell,hfroz,hz,z6,z7,z8,z9,_⟩:=oH;(try have bA:A0<w'.heap.size:=by omega);(try have cA:A0<w'.heap.size+1:=by omega);(try have bB:A0+1<w'.heap.size:=by omega);(try have cB:A0+1<w'.heap.size+1:=by omega);(try have bL:L<w'.heap.size:=by omega);(try have cL:L<w'.heap.size+1:=by omega);(try have bU:EU<w'.heap.size:=by omega);(try have cU:EU<w'.heap.size+1:=by omega);(try have bV:EV<w'.heap.size:=by omega);(try have cV:EV<w'.heap.size+1:=by omega);(try have bS:ES<w'.heap.size:=by omega);(try have cS:ES<w'.heap.size+1:=by omega);(try have bZ:EZ<w'.heap.size:=by omega);(try have cZ:EZ<w'.heap.size+1:=by omega);obtain ⟨w1,rfl⟩:=nm w')|(go_at_call 25;((with_reducible refine am (RI.out _) ?_);intro w' hb);replace hb:=mU;obtain ⟨hcell,hfroz,hz,z6,z7,z8,z9,_⟩:=oH;(try have bA:A0<w'.heap.size:=by omega);(try have cA:A0<w'.heap.size+1:=by omega);(try have bB:A0+1<w'.heap.size:=by omega);(try have cB:A0+1<w'.heap.size+1:=by omega);(try have bL:L<w'.heap.size:=by omega);(try have cL:L<w'.heap.size+1:=by omega);(try have bU:EU<w'.heap.size:=by omega);(try have cU:EU<w'.heap.size+1:=by omega);(try have bV:EV<w'.heap.size:=by omega);(try have cV:EV<w'.heap.size+1:=by omega);(try have bS:ES<w'.heap.size:=by omega);(try have cS:ES<w'.heap.size+1:=by omega);(try have bZ:EZ<w'.heap.size:=by omega);(try have cZ:EZ<w'.heap.size+1:=by omega);obtain ⟨w2,rfl⟩:=nm w'))
     (refine m9 ?_;intro w' hb;replace hb:=mU;obtain ⟨hcell,hfroz,hz,z6,z7,z8,z9,_⟩:=oH)
     have hwb:Below V7.heap.size V7 w':=bw
     have ta0:=cell_later hwb ta0
     have ta1:=cell_later hwb ta1
     have tb0:=cell_later hwb tb0
     have tb1:=cell_later hwb tb1
     have tc0:=cell_later hwb tc0
     have tc1:=cell_later hwb tc1
     have tc2:=cell_later hwb tc2
     have tc3:=cell_later hwb tc3
     have hw:Below w.heap.size w w':=by rw [hA0];exact Below.trans hw (hwb.mono (Nat.le_of_lt gA0))
     clear hcell hfroz hz hb hwb gA0 gA1 gL gEZ
     obtain ⟨V8,rfl⟩:=nm w'
     have gA0:A0<V8.heap.size:=World.block_lt_of_cell? _ _ ta0
     have gA1:A0+1<V8.heap.size:=World.block_lt_of_cell? _ _ tb0
     have gL:L<V8.heap.size:=World.block_lt_of_cell? _ _ tc0
     have gw:w.heap.size<=V8.heap.size:=hw.size
     by_cases g: -10200000<=dl/\dl<=10200000
     ·have CD:=CD g
      have M4:=M4 g
      have d1:(10200000<dl)=False:=eq_false (by omega)
      have d2:(dl< -10200000)=False:=eq_false (by omega)
      unfold CB at CD M4
      clear g
      go_wp2_with (first|(go_at_call 26;((with_reducible refine am (CD.out _) ?_);intro w' hb);replace hb:=mU;obtain ⟨hcell,hfroz,hz,z6,z7,z8,z9,_⟩:=oH;(try have bA:A0<w'.heap.size:=by omega);(try have cA:A0<w'.heap.size+1:=by omega);(try have bB:A0+1<w'.heap.size:=by omega);(try have cB:A0+1<w'.heap.size+1:=by omega);(try have bL:L<w'.heap.size:=by omega);(try have cL:L<w'.heap.size+1:=by omega);(try have bU:EU<w'.heap.size:=by omega);(try have cU:EU<w'.heap.size+1:=by omega);(try have bV:EV<w'.heap.size:=by omega);(try have cV:EV<w'.heap.size+1:=by omega);(try have bS:ES<w'.heap.size:=by omega);(try have cS:ES<w'.heap.size+1:=by omega);(try have bZ:EZ<w'.heap.size:=by omega);(try have cZ:EZ<w'.heap.size+1:=by omega);obtain ⟨w1,rfl⟩:=nm w')|(go_at_call 15;((with_reducible refine am (M4.out _) ?_);intro w' hb);replace hb:=mU;obtain ⟨hcell,hfroz,hz,z6,z7,z8,z9,_⟩:=oH;(try have bA:A0<w'.heap.size:=by omega);(try have cA:A0<w'.heap.size+1:=by omega);(try have bB:A0+1<w'.heap.size:=by omega);(try have cB:A0+1<w'.heap.size+1:=by omega);(try have bL:L<w'.heap.size:=by omega);(try have cL:L<w'.heap.size+1:=by omega);(try have bU:EU<w'.heap.size:=by omega);(try have cU:EU<w'.heap.size+1:=by omega);(try have bV:EV<w'.heap.size:=by omega);(try have cV:EV<w'.heap.size+1:=by omega);(try have bS:ES<w'.heap.size:=by omega);(try have cS:ES<w'.heap.size+1:=by omega);(try have bZ:EZ<w'.heap.size:=by omega);(try have cZ:EZ<w'.heap.size+1:=by omega);obtain ⟨w2,rfl⟩:=nm w'))
      go_ret
      exact ⟨rfl,bw⟩
     ·clear CD M4
      by_cases g2:10200000<dl
      ·have d1:(10200000<dl)=True:=eq_true g2
       clear g g2
       go_wp2
       go_ret
       exact ⟨rfl,bw⟩
      ·have d1:(10200000<dl)=False:=eq_false g2
       have d2:(dl< -10200000)=True:=eq_true (by omega)
       clear g g2
       go_wp2
       go_ret
       exact ⟨rfl,bw⟩
theorem sE (la lo lb lob:Int) (w:World) (_b1: -9223372036854775808<=la/\la<=9223372036854775807) (_b2: -9223372036854775808<=lo/\lo<=9223372036854775807) (_b3: -9223372036854775808<=lb/\lb<=9223372036854775807) (_b4: -9223372036854775808<=lob/\lob<=9223372036854775807):
  Calls Tryz.prog 4 #[.agg #[.int .i64 la,.int .i64 lo],.agg #[.int .i64 lb,.int .i64 lob]] w fun e w'=>e= .returned (.bool true)/\Below w.heap.size w w':=by
 have WA:CB 6 #[] (.bool true):=b6 wZ
 by_cases ha:W7 la lo
 ·by_cases hb:W7 lb lob
  ·obtain ⟨⟨n1,n2,n3⟩,⟨k1,k2,k3,k4⟩,⟨c1,c2⟩,ga⟩:=AO la lo lb lob ha hb
   obtain ⟨bl,bh,e1,e2,e3,e4,e5,BT⟩:=xH la lo lb lob ha hb
   obtain ⟨rp,rq,rx,ry,hr,RI⟩:=UC la lo lb lob ha hb
   have GI:=zW la lo lb lob ha hb
   have SD:=OR la lo lb lob ha hb
   have SO:=LH la lo lb lob ha hb
   have sb:=pQ (lob-lo)
   have CO:∃cx cy:Int,-10200000<=aZ (lob-lo)/\aZ (lob-lo)<=10200000->(0<=cx/\cx<=cy/\cy<=10800000)/\cx<=dH la lb (lob-lo)/\dL la lb (lob-lo)<=cy/\
     CB 26 #[.agg #[.int .i64 la,.int .i64 lo],.agg #[.int .i64 lb,.int .i64 lob],.int .i64 5399999] (.tuple #[.agg #[.int .i64 cx,.int .i64 cy],.int .i64 0]):=by
    by_cases g: -10200000<=aZ (lob-lo)/\aZ (lob-lo)<=10200000
    ·obtain ⟨x,y,h⟩:=PU la lo lb lob ha hb g
     exact ⟨x,y,fun _=>h⟩
    ·exact ⟨0,0,fun h=>absurd h g⟩
   obtain ⟨cx,cy,CO⟩:=CO
   have O1:=JZ la lo ha
   have O2:=JZ lb lob hb
   have P1:=b6 fun w=>kH la lo w ha
   have P2:=b6 fun w=>kH lb lob w hb
   unfold W7 at ha hb
   have SG:CB 21 #[.int .i64 (lob-lo)] (.int .i64 (aZ (lob-lo))):=b6 fun w=>(qA (lob-lo) _ w (by omega) (by omega) rfl).mono fun e w' h=>⟨h.1,by rw [<-h.2];exact Below.refl _ _⟩
   have VA:CB 13 #[.agg #[.int .i64 (crL la lb (lob-lo)),.int .i64 (crH la lb (lob-lo))]] (.bool true):=b6 fun w=>by have:=kD (crL la lb (lob-lo)) (crH la lb (lob-lo)) w;rw [c1] at this;exact this
   have AG:CB 14 #[.agg #[.int .i64 (szL la lb (lob-lo)),.int .i64 (szH la lb (lob-lo))],.agg #[.int .i64 (crL la lb (lob-lo)),.int .i64 (crH la lb (lob-lo))]] (.tuple #[.bool true,.int .i64 0]):=b6 fun w=>by have:=PD _ _ _ _ w c2 c1;rw [ga] at this;exact this
   refine a0X la lo lb lob (lob-lo) (aZ (lob-lo)) _ _ _ _ _ _ _ _ _ _ _ _ _ _ _ _ bl bh _ _ _ _ rp rq rx ry cx cy w ha.1 hb.1 ha.2 hb.2 rfl hr WA P1 P2 GI O1 O2 VA BT ?_ SG SD ?_ SO ?_ ?_ AG RI (fun g=>(CO g).2.2.2) (fun g=> ?_)
   all_goals clear GI SD SO BT RI O1 O2 P1 P2 VA AG SG WA
   ·generalize dL la lb (lob-lo)=x at*
    generalize dH la lb (lob-lo)=y at*
    exact b6 fun w=>jH bl bh x y w (G8 (by omega)) (G8 (by omega)) (by omega) (by omega)
   ·generalize dL la lb (lob-lo)=x at*
    generalize dH la lb (lob-lo)=y at*
    exact b6 fun w=>jH x y x y w (G8 (by omega)) (G8 (by omega)) (by omega) (by omega)
   ·generalize dL la lb (lob-lo)=x at*
    generalize dH la lb (lob-lo)=y at*
    generalize slL la lb (lob-lo)=u at*
    generalize slH la lb (lob-lo)=v at*
    exact b6 fun w=>XA u v x y w (by omega) (by omega) (by omega) (by omega)
   ·generalize dL la lb (lob-lo)=x at*
    generalize dH la lb (lob-lo)=y at*
    generalize slL la lb (lob-lo)=u at*
    generalize slH la lb (lob-lo)=v at*
    exact b6 fun w=>jH 5400000 5400000 (u+x) (v+y) w (G8 (by omega)) (G8 (by omega)) (by omega) (by omega)
   ·have C:=CO g
    clear CO
    obtain ⟨C1,C2,C3,_⟩:=C
    generalize dL la lb (lob-lo)=x at*
    generalize dH la lb (lob-lo)=y at*
    exact b6 fun w=>jH cx cy x y w (G8 (by omega)) (G8 (by omega)) (by omega) (by omega)
  ·exact a0q la lo lb lob w WA (b6 fun w=>kH la lo w ha) (b6 fun w=>tI lb lob w hb)
 ·exact a0M la lo lb lob w WA (b6 fun w=>tI la lo w ha)
end Go.Proofs.YtdhbeoahpfimbaaGreat
