/- Part of the proof of TopDistances. -/
import Derived.Test.YtdhbeoahpfimbaaGreatPk
import Derived.Test.YtdhbeoahpfimbaaGreatRa
namespace Go.Proofs.YtdhbeoahpfimbaaGreat
open Go.RowKit
def aQ (w0 w:World) (B:Nat) (d:Bool) (v0 v1 v2 v3:Value):Prop:=
 w0.heap.size<=B/\B<w.heap.size/\w.frozen? ⟨B,0,none⟩=false/\w.frozen? ⟨B,1,none⟩=false/\w.frozen? ⟨B,2,none⟩=false/\w.frozen? ⟨B,3,none⟩=false/\∃x0 x1 x2 x3,w.cell? ⟨B,0,none⟩=some x0/\w.cell? ⟨B,1,none⟩=some x1/\w.cell? ⟨B,2,none⟩=some x2/\w.cell? ⟨B,3,none⟩=some x3/\(d=true->x0=v0/\x1=v1/\x2=v2/\x3=v3)
theorem aQ.later {w0 w w':World} {B:Nat} {d:Bool} {v0 v1 v2 v3:Value} (hb:Below w.heap.size w w') (h:aQ w0 w B d v0 v1 v2 v3):aQ w0 w' B d v0 v1 v2 v3:=by
 obtain ⟨h1,h2,f0,f1,f2,f3,x0,x1,x2,x3,c0,c1,c2,c3,h7⟩:=h
 exact ⟨h1,Nat.lt_of_lt_of_le h2 hb.size,(hb.frozen (p:=⟨B,0,none⟩) h2).trans f0,(hb.frozen (p:=⟨B,1,none⟩) h2).trans f1,(hb.frozen (p:=⟨B,2,none⟩) h2).trans f2,(hb.frozen (p:=⟨B,3,none⟩) h2).trans f3,x0,x1,x2,x3,(hb.cell (p:=⟨B,0,none⟩) h2).trans c0,(hb.cell (p:=⟨B,1,none⟩) h2).trans c1,(hb.cell (p:=⟨B,2,none⟩) h2).trans c2,(hb.cell (p:=⟨B,3,none⟩) h2).trans c3,h7⟩
theorem aQ.alloc {w0 w:World} (h:Below w0.heap.size w0 w) (x0 x1 x2 x3:Value) (t:Nat) (d:Bool) (v0 v1 v2 v3:Value) (hd:d=true->false=true):aQ w0 (w.alloc (Obj.cells #[x0,x1,x2,x3] t)) w.heap.size d v0 v1 v2 v3:=by
 refine ⟨h.size,by simp [go_sem],by simp [go_sem],by simp [go_sem],by simp [go_sem],by simp [go_sem],x0,x1,x2,x3,by simp [go_sem],by simp [go_sem],by simp [go_sem],by simp [go_sem],fun e=> ?_⟩
 have:=hd e
 cases this
theorem aQ.store {w0 w:World} {B:Nat} {d:Bool} {v0 v1 v2 v3:Value} (u0 u1 u2 u3:Value) (h:aQ w0 w B d v0 v1 v2 v3) (d':Bool):aQ w0 ((((w.setCell ⟨B,0,none⟩ u0).setCell ⟨B,1,none⟩ u1).setCell ⟨B,2,none⟩ u2).setCell ⟨B,3,none⟩ u3) B d' u0 u1 u2 u3:=by
 obtain ⟨h1,h2,f0,f1,f2,f3,x0,x1,x2,x3,c0,c1,c2,c3,h7⟩:=h
 refine ⟨h1,by simpa using h2,by simpa using f0,by simpa using f1,by simpa using f2,by simpa using f3,u0,u1,u2,u3,?_,?_,?_,?_,fun _=>⟨rfl,rfl,rfl,rfl⟩⟩
 ·simp [go_sem, *]
 ·simp [go_sem, *]
 ·simp [go_sem, *]
 ·simp [go_sem, *]
set_option maxRecDepth 100000 in
set_option maxHeartbeats 40000000 in
theorem yM (n:Int) (K:Nat) (hK:K<=100) (one va vb vh vt vd vz vA vT vf vg vp:Value) (s0 s1 s2 s3 l0 l1 l2 l3 t0 t1 t2 t3 g0 g1 g2 g3 m0 m1 m2 m3 f0 f1 f2 f3 r0 r1 r2 r3:Int) (u0 u1 u2 u3:Nat->Int) (B:Bool) (w:World) (hy3:0<=r3/\r3<1000000000000)
  (SI:CB 313 #[.int .i64 n] (.agg #[.int .u64 s0,.int .u64 s1,.int .u64 s2,.int .u64 s3]))
  (UN:CB 314 #[] (one))
  (AD:CB 315 #[one,.agg #[.int .u64 s0,.int .u64 s1,.int .u64 s2,.int .u64 s3]] (va))
  (MI:CB 317 #[one,.agg #[.int .u64 s0,.int .u64 s1,.int .u64 s2,.int .u64 s3]] (vb))
  (QU:CB 316 #[va,vb] (.agg #[.int .u64 (u0 0),.int .u64 (u1 0),.int .u64 (u2 0),.int .u64 (u3 0)]))
  (HF:CB 318 #[one] (vh))
  (LM:CB 315 #[one,vh] (.agg #[.int .u64 l0,.int .u64 l1,.int .u64 l2,.int .u64 l3]))
  (TH:CB 320 #[one,.int .u64 3] (.agg #[.int .u64 t0,.int .u64 t1,.int .u64 t2,.int .u64 t3]))
  (AT1:CB 321 #[.agg #[.int .u64 t0,.int .u64 t1,.int .u64 t2,.int .u64 t3]] (vt))
  (BY:CB 322 #[vt,.int .u64 (2*(K:Int))] (.agg #[.int .u64 g0,.int .u64 g1,.int .u64 g2,.int .u64 g3]))
  (SM:CB 315 #[.agg #[.int .u64 (u0 K),.int .u64 (u1 K),.int .u64 (u2 K),.int .u64 (u3 K)],one] (.agg #[.int .u64 m0,.int .u64 m1,.int .u64 m2,.int .u64 m3]))
  (LO:CB 319 #[.agg #[.int .u64 (u0 K),.int .u64 (u1 K),.int .u64 (u2 K),.int .u64 (u3 K)],one] (.bool B))
  (Q1:CB 316 #[vd,.agg #[.int .u64 m0,.int .u64 m1,.int .u64 m2,.int .u64 m3]] (vz))
  (A1:CB 321 #[vz] (vA))
  (T1:CB 323 #[vA] (vT))
  (H2:CB 318 #[.agg #[.int .u64 f0,.int .u64 f1,.int .u64 f2,.int .u64 f3]] (vf))
  (B2:CB 322 #[vf,.int .u64 10800000] (vg))
  (PI:CB 324 #[] (vp))
  (Q2:CB 316 #[vg,vp] (.agg #[.int .u64 r0,.int .u64 r1,.int .u64 r2,.int .u64 r3]))
  (LE:Hid (∀k,k<=K->∀w,Calls Tryz.prog 319 #[.agg #[.int .u64 (u0 k),.int .u64 (u1 k),.int .u64 (u2 k),.int .u64 (u3 k)],.agg #[.int .u64 l0,.int .u64 l1,.int .u64 l2,.int .u64 l3]] w fun e w'=>e= .returned (.bool (decide (k=K)))/\Below w.heap.size w w'))
  (HV:Hid (∀k,k<K->∀w,Calls Tryz.prog 318 #[.agg #[.int .u64 (u0 k),.int .u64 (u1 k),.int .u64 (u2 k),.int .u64 (u3 k)]] w fun e w'=>e= .returned (.agg #[.int .u64 (u0 (k+1)),.int .u64 (u1 (k+1)),.int .u64 (u2 (k+1)),.int .u64 (u3 (k+1))])/\Below w.heap.size w w'))
  (M1:Hid ((B=true->∀w,Calls Tryz.prog 317 #[one,.agg #[.int .u64 (u0 K),.int .u64 (u1 K),.int .u64 (u2 K),.int .u64 (u3 K)]] w fun e w'=>e= .returned (vd)/\Below w.heap.size w w')/\(B=false->∀w,Calls Tryz.prog 317 #[.agg #[.int .u64 (u0 K),.int .u64 (u1 K),.int .u64 (u2 K),.int .u64 (u3 K)],one] w fun e w'=>e= .returned (vd)/\Below w.heap.size w w')))
  (R1:Hid ((B=true->∀w,Calls Tryz.prog 317 #[.agg #[.int .u64 g0,.int .u64 g1,.int .u64 g2,.int .u64 g3],vT] w fun e w'=>e= .returned (.agg #[.int .u64 f0,.int .u64 f1,.int .u64 f2,.int .u64 f3])/\Below w.heap.size w w')/\(B=false->∀w,Calls Tryz.prog 315 #[.agg #[.int .u64 g0,.int .u64 g1,.int .u64 g2,.int .u64 g3],vT] w fun e w'=>e= .returned (.agg #[.int .u64 f0,.int .u64 f1,.int .u64 f2,.int .u64 f3])/\Below w.heap.size w w'))):
  Calls Tryz.prog 275 #[.int .i64 n] w fun e w'=>e= .returned (.int .i64 r3)/\Below w.heap.size w w':=by
 have kw:∀k:Nat,k<=K->IntKind.u64.wrap ((k:Int)+1)=((k+1:Nat):Int):=fun k hk=>by rw [IntKind.wrap_u64];omega
 have kw2:IntKind.u64.wrap (2*(K:Int))=2*(K:Int):=by rw [IntKind.wrap_u64];omega
 have kw3:IntKind.i64.wrap r3=r3:=by rw [IntKind.wrap_i64];omega
 have HH:=b6 (And.intro hK kw)
 have H3:=b6 kw3
 clear hy3 hK kw kw3
 go_enter Tryz.func275,Tryz.ntmps275
 go_wp2_with (first|(go_at_call 313;(with_reducible refine am (SI.out _) ?_);intro w' hb;replace hb:=mU;obtain ⟨hcell,hfroz,hz,_⟩:=mB;obtain ⟨w1,rfl⟩:=nm w'))
 (refine m9 ?_;intro w' hb;replace hb:=mU;obtain ⟨hcell,hfroz,hz,_⟩:=mB)
 have c0:=A7 w' w1.heap.size 0 s0
 have c1:=A7 w' w1.heap.size 1 s1
 have c2:=A7 w' w1.heap.size 2 s2
 have c3:=A7 w' w1.heap.size 3 s3
 have hw0:Below w.heap.size w w':=bw
 clear hcell hfroz hz hb
 obtain ⟨V0,rfl⟩:=nm w'
 generalize w1.heap.size=BS at*
 refine B8 (fun a0 LL aa vv=>∃(l0 l1 l2 l3 l4 l5 l6 l7 l8:Bool) (EU:Nat),LL= #[l0,l1,l2,l3,l4,l5,l6,l7,l8]/\aa={a0 with tmps:=((((((((a0.tmps.setIfInBounds 12 (cond l0 (one) (undef))).setIfInBounds 13 (cond l1 (.agg #[.int .u64 s0,.int .u64 s1,.int .u64 s2,.int .u64 s3]) (undef))).setIfInBounds 14 (cond l2 (va) (undef))).setIfInBounds 15 (cond l3 (one) (undef))).setIfInBounds 16 (cond l4 (.agg #[.int .u64 s0,.int .u64 s1,.int .u64 s2,.int .u64 s3]) (undef))).setIfInBounds 17 (cond l5 (vb) (undef))).setIfInBounds 18 (cond l6 (.agg #[.int .u64 ((u0 0)),.int .u64 ((u1 0)),.int .u64 ((u2 0)),.int .u64 ((u3 0))]) (undef))).setIfInBounds 4 (cond l7 (.pointer (some ⟨EU,0,none⟩)) (undef)))}/\Below V0.heap.size V0 vv/\(l8=true->l7=true)/\(l7=true->aQ V0 vv EU l8 (.int .u64 ((u0 0))) (.int .u64 ((u1 0))) (.int .u64 ((u2 0))) (.int .u64 ((u3 0))))) (by kernel_rfl) (by kernel_rfl) ?h0 ?hsize ?hdone ?hstep
 case h0=>
  refine ⟨false,false,false,false,false,false,false,false,false,0,rfl,?_,bv,(fun h=>by cases h),(fun h=>by cases h)⟩
  simp only [cond_false,List.setIfInBounds_toArray,List.set_cons_zero,List.set_cons_succ]
 case hsize=>
  intro LL aa vv h
  obtain ⟨l0,l1,l2,l3,l4,l5,l6,l7,l8,EU,hL,_⟩:=h
  rw [hL]
  rfl
 case hstep=>
  intro LL aa vv h
  obtain ⟨l0,l1,l2,l3,l4,l5,l6,l7,l8,EU,hL,ha,hb0,hq7,hr7⟩:=h
  simp only [List.setIfInBounds_toArray,List.set_cons_zero,List.set_cons_succ] at ha
  subst hL
  subst ha
  refine ⟨?s0,?s1,?s2,?s3,?s4,?s5,?s6,?s7,?s8,trivial⟩
  case s0=>intro ff gg KK hK;obtain rfl:l0=false:=ff;clear gg;simp only [cond_false];go_simp;((go_at_call 314;((with_reducible refine am (UN.out _) ?_);intro w' hb)));exact hK _ _ ⟨_,_,_,_,_,_,_,_,_,EU,rfl,aq,o5 hb hb0,hq7,(fun t=>(hr7 t).later hb)⟩
  case s1=>intro ff gg KK hK;obtain rfl:l1=false:=ff;clear gg;simp only [cond_false];have cc0:vv.cell? ⟨BS,0,none⟩=some (.int .u64 s0):=cell_later hb0 c0;have cc1:vv.cell? ⟨BS,1,none⟩=some (.int .u64 s1):=cell_later hb0 c1;have cc2:vv.cell? ⟨BS,2,none⟩=some (.int .u64 s2):=cell_later hb0 c2;have cc3:vv.cell? ⟨BS,3,none⟩=some (.int .u64 s3):=cell_later hb0 c3;go_simp;exact hK _ _ ⟨_,_,_,_,_,_,_,_,_,EU,rfl,aq,hb0,hq7,hr7⟩
  case s2=>intro ff gg KK hK;obtain rfl:l0=true:=gg ⟨0,.data⟩ (by simp) rfl;obtain rfl:l1=true:=gg ⟨1,.data⟩ (by simp) rfl;obtain rfl:l2=false:=ff;clear gg;simp only [cond_true,cond_false];go_simp;((go_at_call 315;((with_reducible refine am (AD.out _) ?_);intro w' hb)));exact hK _ _ ⟨_,_,_,_,_,_,_,_,_,EU,rfl,aq,o5 hb hb0,hq7,(fun t=>(hr7 t).later hb)⟩
  case s3=>intro ff gg KK hK;obtain rfl:l3=false:=ff;clear gg;simp only [cond_false];go_simp;((go_at_call 314;((with_reducible refine am (UN.out _) ?_);intro w' hb)));exact hK _ _ ⟨_,_,_,_,_,_,_,_,_,EU,rfl,aq,o5 hb hb0,hq7,(fun t=>(hr7 t).later hb)⟩
  case s4=>intro ff gg KK hK;obtain rfl:l4=false:=ff;clear gg;simp only [cond_false];have cc0:vv.cell? ⟨BS,0,none⟩=some (.int .u64 s0):=cell_later hb0 c0;have cc1:vv.cell? ⟨BS,1,none⟩=some (.int .u64 s1):=cell_later hb0 c1;have cc2:vv.cell? ⟨BS,2,none⟩=some (.int .u64 s2):=cell_later hb0 c2;have cc3:vv.cell? ⟨BS,3,none⟩=some (.int .u64 s3):=cell_later hb0 c3;go_simp;exact hK _ _ ⟨_,_,_,_,_,_,_,_,_,EU,rfl,aq,hb0,hq7,hr7⟩
  case s5=>intro ff gg KK hK;obtain rfl:l3=true:=gg ⟨3,.data⟩ (by simp) rfl;obtain rfl:l4=true:=gg ⟨4,.data⟩ (by simp) rfl;obtain rfl:l5=false:=ff;clear gg;simp only [cond_true,cond_false];go_simp;((go_at_call 317;((with_reducible refine am (MI.out _) ?_);intro w' hb)));exact hK _ _ ⟨_,_,_,_,_,_,_,_,_,EU,rfl,aq,o5 hb hb0,hq7,(fun t=>(hr7 t).later hb)⟩
  case s6=>intro ff gg KK hK;obtain rfl:l2=true:=gg ⟨2,.data⟩ (by simp) rfl;obtain rfl:l5=true:=gg ⟨5,.data⟩ (by simp) rfl;obtain rfl:l6=false:=ff;clear gg;simp only [cond_true,cond_false];go_simp;((go_at_call 316;((with_reducible refine am (QU.out _) ?_);intro w' hb)));exact hK _ _ ⟨_,_,_,_,_,_,_,_,_,EU,rfl,aq,o5 hb hb0,hq7,(fun t=>(hr7 t).later hb)⟩
  case s7=>intro ff gg KK hK;obtain rfl:l7=false:=ff;clear gg;simp only [cond_false];go_simp;exact hK _ _ ⟨_,_,_,_,_,_,_,_,_,vv.heap.size,rfl,aq,bw,(fun _=>rfl),(fun _=>aQ.alloc hb0 _ _ _ _ _ _ _ _ _ _ hq7)⟩
  case s8=>intro ff gg KK hK;obtain rfl:l7=true:=gg ⟨7,.data⟩ (by simp) rfl;obtain rfl:l6=true:=gg ⟨6,.data⟩ (by simp) rfl;obtain rfl:l8=false:=ff;clear gg;simp only [cond_true];obtain ⟨m1,m2,fz0,fz1,fz2,fz3,y0,y1,y2,y3,cz0,cz1,cz2,cz3,m7⟩:=hr7 rfl;go_simp;exact hK _ _ ⟨_,_,_,_,_,_,_,_,_,EU,rfl,aq,((((hb0.setCell m1 _).setCell m1 _).setCell m1 _).setCell m1 _),(fun _=>rfl),(fun _=>(hr7 rfl).store _ _ _ _ _)⟩
 case hdone=>
  intro LL aa vv h hd
  obtain ⟨l0,l1,l2,l3,l4,l5,l6,l7,l8,EU,hL,ha,hb0,hq7,hr7⟩:=h
  rw [hL] at hd
  have t0:l0=true:=hd 0 (by decide)
  have t1:l1=true:=hd 1 (by decide)
  have t2:l2=true:=hd 2 (by decide)
  have t3:l3=true:=hd 3 (by decide)
  have t4:l4=true:=hd 4 (by decide)
  have t5:l5=true:=hd 5 (by decide)
  have t6:l6=true:=hd 6 (by decide)
  have t7:l7=true:=hd 7 (by decide)
  have t8:l8=true:=hd 8 (by decide)
  clear hd hL hq7
  subst t0 t1 t2 t3 t4 t5 t6 t7 t8
  simp only [cond_true,List.setIfInBounds_toArray,List.set_cons_zero,List.set_cons_succ] at ha
  subst ha
  obtain ⟨EUg,EUl,EUf0,EUf1,EUf2,EUf3,y0,y1,y2,y3,EUc0,EUc1,EUc2,EUc3,hy⟩:=hr7 rfl
  obtain ⟨rfl,rfl,rfl,rfl⟩:=hy rfl
  clear hr7
  have hw1:Below w.heap.size w vv:=Below.trans hw0 (hb0.mono hw0.size)
  have gU:w.heap.size<=EU:=Nat.le_trans hw0.size EUg
  clear hb0 hw0 c0 c1 c2 c3 EUg
  obtain ⟨V1,rfl⟩:∃v,v=vv:=⟨_,rfl⟩
  go_wp2_with (first|(go_at_call 314;(with_reducible refine am (UN.out _) ?_);intro w' hb;replace hb:=mU;obtain ⟨hcell,hfroz,hz,_⟩:=mB;(try have zz0:EU<w'.heap.size:=by omega);(try have zy0:EU<w'.heap.size+1:=by omega);(try have zz1:w.heap.size<w'.heap.size:=by omega);(try have zy1:w.heap.size<w'.heap.size+1:=by omega))|(go_at_call 318;(with_reducible refine am (HF.out _) ?_);intro w' hb;replace hb:=mU;obtain ⟨hcell,hfroz,hz,_⟩:=mB;(try have zz0:EU<w'.heap.size:=by omega);(try have zy0:EU<w'.heap.size+1:=by omega);(try have zz1:w.heap.size<w'.heap.size:=by omega);(try have zy1:w.heap.size<w'.heap.size+1:=by omega);obtain ⟨w2,rfl⟩:=nm w')|(go_at_call 315;(with_reducible refine am (LM.out _) ?_);intro w' hb;replace hb:=mU;obtain ⟨hcell,hfroz,hz,_⟩:=mB;(try have zz0:EU<w'.heap.size:=by omega);(try have zy0:EU<w'.heap.size+1:=by omega);(try have zz1:w.heap.size<w'.heap.size:=by omega);(try have zy1:w.heap.size<w'.heap.size+1:=by omega);obtain ⟨w3,rfl⟩:=nm w'))
  refine m9 ?_
  intro w' hb
  replace hb:=mU;obtain ⟨hcell,hfroz,hz,_⟩:=mB
  have k0:=A7 w' EU 0 (u0 0)
  have k1:=A7 w' EU 1 (u1 0)
  have k2:=A7 w' EU 2 (u2 0)
  have k3:=A7 w' EU 3 (u3 0)
  have k4:=A7 w' w3.heap.size 0 l0
  have k5:=A7 w' w3.heap.size 1 l1
  have k6:=A7 w' w3.heap.size 2 l2
  have k7:=A7 w' w3.heap.size 3 l3
  have q0:w'.frozen? ⟨EU,0,none⟩=false:=by simp [go_sem, *]
  have q1:w'.frozen? ⟨EU,1,none⟩=false:=by simp [go_sem, *]
  have q2:w'.frozen? ⟨EU,2,none⟩=false:=by simp [go_sem, *]
  have q3:w'.frozen? ⟨EU,3,none⟩=false:=by simp [go_sem, *]
  have hw2:Below w.heap.size w w':=bw
  have lU:EU<w3.heap.size:=by omega
  clear hcell hfroz hz hb hw1 EUl EUf0 EUf1 EUf2 EUf3 EUc0 EUc1 EUc2 EUc3
  obtain ⟨V2,rfl⟩:=nm w'
  generalize w3.heap.size=BL at*
  go_loopw [5] (fun s5 wr=>∃(k:Nat),s5= .int .u64 k/\k<=K/\wr.cell? ⟨EU,0,none⟩=some (.int .u64 (u0 k))/\wr.cell? ⟨EU,1,none⟩=some (.int .u64 (u1 k))/\wr.cell? ⟨EU,2,none⟩=some (.int .u64 (u2 k))/\wr.cell? ⟨EU,3,none⟩=some (.int .u64 (u3 k))/\wr.cell? ⟨BL,0,none⟩=some (.int .u64 l0)/\wr.cell? ⟨BL,1,none⟩=some (.int .u64 l1)/\wr.cell? ⟨BL,2,none⟩=some (.int .u64 l2)/\wr.cell? ⟨BL,3,none⟩=some (.int .u64 l3)/\wr.frozen? ⟨EU,0,none⟩=false/\wr.frozen? ⟨EU,1,none⟩=false/\wr.frozen? ⟨EU,2,none⟩=false/\wr.frozen? ⟨EU,3,none⟩=false/\Below w.heap.size w wr) (fun s5 _=>(1000-intOf s5).toNat)
  case atStart=>exact ⟨0,rfl,by omega,k0,k1,k2,k3,k4,k5,k6,k7,q0,q1,q2,q3,hw2⟩
  case round=>
   obtain ⟨k,rfl,hk,j0,j1,j2,j3,j4,j5,j6,j7,p0,p1,p2,p3,hY⟩:=hrel
   clear k0 k1 k2 k3 k4 k5 k6 k7 q0 q1 q2 q3 hw2
   have bl:BL<wr.heap.size:=World.block_lt_of_cell? _ _ j4
   have bu:EU<wr.heap.size:=by omega
   have b0:w.heap.size<wr.heap.size:=by omega
   have n1:(BL=EU)=False:=eq_false (by omega)
   have n2:(EU=BL)=False:=eq_false (by omega)
   by_cases hk2:k=K
   ·subst hk2
    have LE2:CB 319 #[.agg #[.int .u64 (u0 k),.int .u64 (u1 k),.int .u64 (u2 k),.int .u64 (u3 k)],.agg #[.int .u64 l0,.int .u64 l1,.int .u64 l2,.int .u64 l3]] (.bool true):=b6 fun w=>by have h:=LE.out k (Nat.le_refl _) w;simp only [decide_true] at h;exact h
    clear LE HV HH hk
    go_wp2_with (first|(go_at_call 319;(with_reducible refine am (LE2.out _) ?_);intro w' hb;replace hb:=mU;obtain ⟨hcell,hfroz,hz,_⟩:=mB;(try have zz0:EU<w'.heap.size:=by omega);(try have zy0:EU<w'.heap.size+1:=by omega);(try have zz1:BL<w'.heap.size:=by omega);(try have zy1:BL<w'.heap.size+1:=by omega);(try have zz2:w.heap.size<w'.heap.size:=by omega);(try have zy2:w.heap.size<w'.heap.size+1:=by omega))|(go_at_call 314;(with_reducible refine am (UN.out _) ?_);intro w' hb;replace hb:=mU;obtain ⟨hcell,hfroz,hz,_⟩:=mB;(try have zz0:EU<w'.heap.size:=by omega);(try have zy0:EU<w'.heap.size+1:=by omega);(try have zz1:BL<w'.heap.size:=by omega);(try have zy1:BL<w'.heap.size+1:=by omega);(try have zz2:w.heap.size<w'.heap.size:=by omega);(try have zy2:w.heap.size<w'.heap.size+1:=by omega))|(go_at_call 320;(with_reducible refine am (TH.out _) ?_);intro w' hb;replace hb:=mU;obtain ⟨hcell,hfroz,hz,_⟩:=mB;(try have zz0:EU<w'.heap.size:=by omega);(try have zy0:EU<w'.heap.size+1:=by omega);(try have zz1:BL<w'.heap.size:=by omega);(try have zy1:BL<w'.heap.size+1:=by omega);(try have zz2:w.heap.size<w'.heap.size:=by omega);(try have zy2:w.heap.size<w'.heap.size+1:=by omega);obtain ⟨w4,rfl⟩:=nm w')|(go_at_call 321;(with_reducible refine am (AT1.out _) ?_);intro w' hb;replace hb:=mU;obtain ⟨hcell,hfroz,hz,_⟩:=mB;(try have zz0:EU<w'.heap.size:=by omega);(try have zy0:EU<w'.heap.size+1:=by omega);(try have zz1:BL<w'.heap.size:=by omega);(try have zy1:BL<w'.heap.size+1:=by omega);(try have zz2:w.heap.size<w'.heap.size:=by omega);(try have zy2:w.heap.size<w'.heap.size+1:=by omega))|(go_at_call 322;(with_reducible refine am (BY.out _) ?_);intro w' hb;replace hb:=mU;obtain ⟨hcell,hfroz,hz,_⟩:=mB;(try have zz0:EU<w'.heap.size:=by omega);(try have zy0:EU<w'.heap.size+1:=by omega);(try have zz1:BL<w'.heap.size:=by omega);(try have zy1:BL<w'.heap.size+1:=by omega);(try have zz2:w.heap.size<w'.heap.size:=by omega);(try have zy2:w.heap.size<w'.heap.size+1:=by omega);obtain ⟨w5,rfl⟩:=nm w'))
    refine m9 ?_
    intro w' hb
    replace hb:=mU;obtain ⟨hcell,hfroz,hz,_⟩:=mB
    have:EU<w'.heap.size:=by omega
    have:BL<w'.heap.size:=by omega
    have:w.heap.size<w'.heap.size:=by omega
    have k0:=A7 w' EU 0 (u0 k)
    have k1:=A7 w' EU 1 (u1 k)
    have k2:=A7 w' EU 2 (u2 k)
    have k3:=A7 w' EU 3 (u3 k)
    have k4:=A7 w' w5.heap.size 0 g0
    have k5:=A7 w' w5.heap.size 1 g1
    have k6:=A7 w' w5.heap.size 2 g2
    have k7:=A7 w' w5.heap.size 3 g3
    have q0:w'.frozen? ⟨w5.heap.size,0,none⟩=false:=by simp [go_sem, *]
    have q1:w'.frozen? ⟨w5.heap.size,1,none⟩=false:=by simp [go_sem, *]
    have q2:w'.frozen? ⟨w5.heap.size,2,none⟩=false:=by simp [go_sem, *]
    have q3:w'.frozen? ⟨w5.heap.size,3,none⟩=false:=by simp [go_sem, *]
    have hw3:Below w.heap.size w w':=bw
    have gG:EU<w5.heap.size/\w.heap.size<=w5.heap.size:=by omega
    clear hcell hfroz hz hb hY j0 j1 j2 j3 j4 j5 j6 j7 p0 p1 p2 p3
    obtain ⟨V3,rfl⟩:=nm w'
    generalize w5.heap.size=BG at*
    have lG0:BG<V3.heap.size:=World.block_lt_of_cell? _ _ k4
    refine B8 (fun a0 LL aa vv=>∃(l0 l1 l2 l3 l4:Bool) (EM:Nat),LL= #[l0,l1,l2,l3,l4]/\aa={a0 with tmps:=((((a0.tmps.setIfInBounds 38 (cond l0 (.agg #[.int .u64 (u0 k),.int .u64 (u1 k),.int .u64 (u2 k),.int .u64 (u3 k)]) (undef))).setIfInBounds 39 (cond l1 (one) (undef))).setIfInBounds 40 (cond l2 (.agg #[.int .u64 m0,.int .u64 m1,.int .u64 m2,.int .u64 m3]) (undef))).setIfInBounds 9 (cond l3 (.pointer (some ⟨EM,0,none⟩)) (undef)))}/\Below V3.heap.size V3 vv/\(l4=true->l3=true)/\(l3=true->aQ V3 vv EM l4 (.int .u64 m0) (.int .u64 m1) (.int .u64 m2) (.int .u64 m3))) (by kernel_rfl) (by kernel_rfl) ?h0 ?hsize ?hdone ?hstep
    case h0=>
     refine ⟨false,false,false,false,false,0,rfl,?_,bv,(fun h=>by cases h),(fun h=>by cases h)⟩
     simp only [cond_false,List.setIfInBounds_toArray,List.set_cons_zero,List.set_cons_succ]
    case hsize=>
     intro LL aa vv h
     obtain ⟨l0,l1,l2,l3,l4,EM,hL,_⟩:=h
     rw [hL]
     rfl
    case hstep=>
     intro LL aa vv h
     obtain ⟨l0,l1,l2,l3,l4,EM,hL,ha,hb0,hq3,hr3⟩:=h
     simp only [List.setIfInBounds_toArray,List.set_cons_zero,List.set_cons_succ] at ha
     subst hL
     subst ha
     refine ⟨?s0,?s1,?s2,?s3,?s4,trivial⟩
     case s0=>intro ff gg KK hK;obtain rfl:l0=false:=ff;clear gg;simp only [cond_false];have cc0:vv.cell? ⟨EU,0,none⟩=some (.int .u64 (u0 k)):=cell_later hb0 k0;have cc1:vv.cell? ⟨EU,1,none⟩=some (.int .u64 (u1 k)):=cell_later hb0 k1;have cc2:vv.cell? ⟨EU,2,none⟩=some (.int .u64 (u2 k)):=cell_later hb0 k2;have cc3:vv.cell? ⟨EU,3,none⟩=some (.int .u64 (u3 k)):=cell_later hb0 k3;go_simp;exact hK _ _ ⟨_,_,_,_,_,EM,rfl,aq,hb0,hq3,hr3⟩
     case s1=>intro ff gg KK hK;obtain rfl:l1=false:=ff;clear gg;simp only [cond_false];go_simp;((go_at_call 314;((with_reducible refine am (UN.out _) ?_);intro w' hb)));exact hK _ _ ⟨_,_,_,_,_,EM,rfl,aq,o5 hb hb0,hq3,(fun t=>(hr3 t).later hb)⟩
     case s2=>intro ff gg KK hK;obtain rfl:l0=true:=gg ⟨0,.data⟩ (by simp) rfl;obtain rfl:l1=true:=gg ⟨1,.data⟩ (by simp) rfl;obtain rfl:l2=false:=ff;clear gg;simp only [cond_true,cond_false];go_simp;((go_at_call 315;((with_reducible refine am (SM.out _) ?_);intro w' hb)));exact hK _ _ ⟨_,_,_,_,_,EM,rfl,aq,o5 hb hb0,hq3,(fun t=>(hr3 t).later hb)⟩
     case s3=>intro ff gg KK hK;obtain rfl:l3=false:=ff;clear gg;simp only [cond_false];go_simp;exact hK _ _ ⟨_,_,_,_,_,vv.heap.size,rfl,aq,bw,(fun _=>rfl),(fun _=>aQ.alloc hb0 _ _ _ _ _ _ _ _ _ _ hq3)⟩
     case s4=>intro ff gg KK hK;obtain rfl:l3=true:=gg ⟨3,.data⟩ (by simp) rfl;obtain rfl:l2=true:=gg ⟨2,.data⟩ (by simp) rfl;obtain rfl:l4=false:=ff;clear gg;simp only [cond_true];obtain ⟨m1,m2,fz0,fz1,fz2,fz3,y0,y1,y2,y3,cz0,cz1,cz2,cz3,m7⟩:=hr3 rfl;go_simp;exact hK _ _ ⟨_,_,_,_,_,EM,rfl,aq,((((hb0.setCell m1 _).setCell m1 _).setCell m1 _).setCell m1 _),(fun _=>rfl),(fun _=>(hr3 rfl).store _ _ _ _ _)⟩
    case hdone=>
     intro LL aa vv h hd
     obtain ⟨l0,l1,l2,l3,l4,EM,hL,ha,hb0,hq3,hr3⟩:=h
     rw [hL] at hd
     have t0:l0=true:=hd 0 (by decide)
     have t1:l1=true:=hd 1 (by decide)
     have t2:l2=true:=hd 2 (by decide)
     have t3:l3=true:=hd 3 (by decide)
     have t4:l4=true:=hd 4 (by decide)
     clear hd hL hq3
     subst t0 t1 t2 t3 t4
     simp only [cond_true,List.setIfInBounds_toArray,List.set_cons_zero,List.set_cons_succ] at ha
     subst ha
     obtain ⟨EMg,EMl,EMf0,EMf1,EMf2,EMf3,y0,y1,y2,y3,EMc0,EMc1,EMc2,EMc3,hy⟩:=hr3 rfl
     obtain ⟨rfl,rfl,rfl,rfl⟩:=hy rfl
     clear hr3
     have hw4:Below w.heap.size w vv:=Below.trans hw3 (hb0.mono hw3.size)
     have k0:=cell_later hb0 k0
     have k1:=cell_later hb0 k1
     have k2:=cell_later hb0 k2
     have k3:=cell_later hb0 k3
     have k4:=cell_later hb0 k4
     have k5:=cell_later hb0 k5
     have k6:=cell_later hb0 k6
     have k7:=cell_later hb0 k7
     have lG:BG<vv.heap.size:=World.block_lt_of_cell? _ _ k4
     have lU2:EU<vv.heap.size:=World.block_lt_of_cell? _ _ k0
     have q0:vv.frozen? ⟨BG,0,none⟩=false:=(hb0.frozen (p:=⟨BG,0,none⟩) lG0).trans q0
     have q1:vv.frozen? ⟨BG,1,none⟩=false:=(hb0.frozen (p:=⟨BG,1,none⟩) lG0).trans q1
     have q2:vv.frozen? ⟨BG,2,none⟩=false:=(hb0.frozen (p:=⟨BG,2,none⟩) lG0).trans q2
     have q3:vv.frozen? ⟨BG,3,none⟩=false:=(hb0.frozen (p:=⟨BG,3,none⟩) lG0).trans q3
     have ne1:(BG=EM)=False:=eq_false (by omega)
     have ne2:(EM=BG)=False:=eq_false (by omega)
     have ne3:(BG=EU)=False:=eq_false (by omega)
     have ne4:(EU=BG)=False:=eq_false (by omega)
     clear hb0 hw3 EMf0 EMf1 EMf2 EMf3
     obtain ⟨V4,rfl⟩:∃v,v=vv:=⟨_,rfl⟩
     go_upto_region 11 with fail
     refine wp_region_quiet_below (by kernel_rfl) (by kernel_rfl) ?_
     repeat (first|go_big_quiet_step ((first|(go_at_call 314;(with_reducible exact Calls.regrown_of (UN.out _)))|(go_at_call 319;(with_reducible exact Calls.regrown_of (LO.out _)))))|quiet_step ((first|(go_at_call 314;(with_reducible exact Calls.regrown_of (UN.out _)))|(go_at_call 319;(with_reducible exact Calls.regrown_of (LO.out _))))))
     refine wpQuiet_nil ?_;intro w' hw';have hb:=i8 hw';clear hw';replace hb:=mU;obtain ⟨hcell,hfroz,hz,_⟩:=mB
     have:EU<w'.heap.size:=by omega
     have:EM<w'.heap.size:=by omega
     have:BG<w'.heap.size:=by omega
     have:w.heap.size<w'.heap.size:=by omega
     cases B
     ·have M2:=b6 (M1.out.2 rfl)
      have R2:=b6 (R1.out.2 rfl)
      clear M1 R1
      go_upto_region 13 with fail
      refine n9 9 (by kernel_rfl) (by kernel_rfl) ?_
      simp only [List.take_succ_cons,List.take_zero,List.drop_succ_cons,List.drop_zero]
      repeat (first|go_big_quiet_step ((first|(go_at_call 314;(with_reducible exact Calls.regrown_of (UN.out _)))|(go_at_call 317;(with_reducible exact Calls.regrown_of (M2.out _)))|(go_at_call 316;(with_reducible exact Calls.regrown_of (Q1.out _)))|(go_at_call 321;(with_reducible exact Calls.regrown_of (A1.out _)))|(go_at_call 323;(with_reducible exact Calls.regrown_of (T1.out _)))|(go_at_call 315;(with_reducible exact Calls.regrown_of (R2.out _)))))|quiet_step ((first|(go_at_call 314;(with_reducible exact Calls.regrown_of (UN.out _)))|(go_at_call 317;(with_reducible exact Calls.regrown_of (M2.out _)))|(go_at_call 316;(with_reducible exact Calls.regrown_of (Q1.out _)))|(go_at_call 321;(with_reducible exact Calls.regrown_of (A1.out _)))|(go_at_call 323;(with_reducible exact Calls.regrown_of (T1.out _)))|(go_at_call 315;(with_reducible exact Calls.regrown_of (R2.out _))))))
      refine wpQuiet_nil ?_;intro w' hw';have hb:=i8 hw';clear hw';replace hb:=mU;obtain ⟨hcell,hfroz,hz,_⟩:=mB
      have:EU<w'.heap.size:=by omega
      have:EM<w'.heap.size:=by omega
      have:BG<w'.heap.size:=by omega
      have:w.heap.size<w'.heap.size:=by omega
      go_upto_region 14 with fail
      refine m9 ?_
      intro w' hb
      replace hb:=mU;obtain ⟨hcell,hfroz,hz,_⟩:=mB
      have:EU<w'.heap.size:=by omega
      have:EM<w'.heap.size:=by omega
      have:BG<w'.heap.size:=by omega
      have:w.heap.size<w'.heap.size:=by omega
      have ff0':w'.cell? ⟨BG,0,none⟩=some (.int .u64 f0):=by simp [go_sem, *]
      have ff1':w'.cell? ⟨BG,1,none⟩=some (.int .u64 f1):=by simp [go_sem, *]
      have ff2':w'.cell? ⟨BG,2,none⟩=some (.int .u64 f2):=by simp [go_sem, *]
      have ff3':w'.cell? ⟨BG,3,none⟩=some (.int .u64 f3):=by simp [go_sem, *]
      have hw5:Below w.heap.size w w':=bw
      clear hcell hfroz hz hb
      have ix:∀w,(Instr.index 308 (.agg #[.int .u64 r0,.int .u64 r1,.int .u64 r2,.int .u64 r3]) (.int .i64 3)).run Tryz.prog w= .ok (.int .u64 r3) w:=fun w=>by first|rfl|(simp [Instr.index,go_sem];done)|kernel_rfl
      have kw3:=H3.out
      go_wp2_with (first|(go_at_call 318;(with_reducible refine am (H2.out _) ?_);intro w' hb;replace hb:=mU;obtain ⟨hcell,hfroz,hz,_⟩:=mB)|(go_at_call 322;(with_reducible refine am (B2.out _) ?_);intro w' hb;replace hb:=mU;obtain ⟨hcell,hfroz,hz,_⟩:=mB)|(go_at_call 324;(with_reducible refine am (PI.out _) ?_);intro w' hb;replace hb:=mU;obtain ⟨hcell,hfroz,hz,_⟩:=mB)|(go_at_call 316;(with_reducible refine am (Q2.out _) ?_);intro w' hb;replace hb:=mU;obtain ⟨hcell,hfroz,hz,_⟩:=mB))
      exact bodyPost_ret (v:= .int .i64 r3) (by first|(simp only [results,Tryz.results275];go_simp;done)|simp [results,Tryz.results275,go_sem, *]) rfl ⟨rfl,bw⟩
     ·have M2:=b6 (M1.out.1 rfl)
      have R2:=b6 (R1.out.1 rfl)
      clear M1 R1
      go_upto_region 12 with fail
      refine n9 9 (by kernel_rfl) (by kernel_rfl) ?_
      simp only [List.take_succ_cons,List.take_zero,List.drop_succ_cons,List.drop_zero]
      repeat (first|go_big_quiet_step ((first|(go_at_call 314;(with_reducible exact Calls.regrown_of (UN.out _)))|(go_at_call 317;(with_reducible exact Calls.regrown_of (M2.out _)))|(go_at_call 316;(with_reducible exact Calls.regrown_of (Q1.out _)))|(go_at_call 321;(with_reducible exact Calls.regrown_of (A1.out _)))|(go_at_call 323;(with_reducible exact Calls.regrown_of (T1.out _)))|(go_at_call 317;(with_reducible exact Calls.regrown_of (R2.out _)))))|quiet_step ((first|(go_at_call 314;(with_reducible exact Calls.regrown_of (UN.out _)))|(go_at_call 317;(with_reducible exact Calls.regrown_of (M2.out _)))|(go_at_call 316;(with_reducible exact Calls.regrown_of (Q1.out _)))|(go_at_call 321;(with_reducible exact Calls.regrown_of (A1.out _)))|(go_at_call 323;(with_reducible exact Calls.regrown_of (T1.out _)))|(go_at_call 317;(with_reducible exact Calls.regrown_of (R2.out _))))))
      refine wpQuiet_nil ?_;intro w' hw';have hb:=i8 hw';clear hw';replace hb:=mU;obtain ⟨hcell,hfroz,hz,_⟩:=mB
      have:EU<w'.heap.size:=by omega
      have:EM<w'.heap.size:=by omega
      have:BG<w'.heap.size:=by omega
      have:w.heap.size<w'.heap.size:=by omega
      go_upto_region 14 with fail
      refine m9 ?_
      intro w' hb
      replace hb:=mU;obtain ⟨hcell,hfroz,hz,_⟩:=mB
      have:EU<w'.heap.size:=by omega
      have:EM<w'.heap.size:=by omega
      have:BG<w'.heap.size:=by omega
      have:w.heap.size<w'.heap.size:=by omega
      have ff0':w'.cell? ⟨BG,0,none⟩=some (.int .u64 f0):=by simp [go_sem, *]
      have ff1':w'.cell? ⟨BG,1,none⟩=some (.int .u64 f1):=by simp [go_sem, *]
      have ff2':w'.cell? ⟨BG,2,none⟩=some (.int .u64 f2):=by simp [go_sem, *]
      have ff3':w'.cell? ⟨BG,3,none⟩=some (.int .u64 f3):=by simp [go_sem, *]
      have hw5:Below w.heap.size w w':=bw
      clear hcell hfroz hz hb
      have ix:∀w,(Instr.index 308 (.agg #[.int .u64 r0,.int .u64 r1,.int .u64 r2,.int .u64 r3]) (.int .i64 3)).run Tryz.prog w= .ok (.int .u64 r3) w:=fun w=>by first|rfl|(simp [Instr.index,go_sem];done)|kernel_rfl
      have kw3:=H3.out
      go_wp2_with (first|(go_at_call 318;(with_reducible refine am (H2.out _) ?_);intro w' hb;replace hb:=mU;obtain ⟨hcell,hfroz,hz,_⟩:=mB)|(go_at_call 322;(with_reducible refine am (B2.out _) ?_);intro w' hb;replace hb:=mU;obtain ⟨hcell,hfroz,hz,_⟩:=mB)|(go_at_call 324;(with_reducible refine am (PI.out _) ?_);intro w' hb;replace hb:=mU;obtain ⟨hcell,hfroz,hz,_⟩:=mB)|(go_at_call 316;(with_reducible refine am (Q2.out _) ?_);intro w' hb;replace hb:=mU;obtain ⟨hcell,hfroz,hz,_⟩:=mB))
      exact bodyPost_ret (v:= .int .i64 r3) (by first|(simp only [results,Tryz.results275];go_simp;done)|simp [results,Tryz.results275,go_sem, *]) rfl ⟨rfl,bw⟩
   ·have LE2:CB 319 #[.agg #[.int .u64 (u0 k),.int .u64 (u1 k),.int .u64 (u2 k),.int .u64 (u3 k)],.agg #[.int .u64 l0,.int .u64 l1,.int .u64 l2,.int .u64 l3]] (.bool false):=b6 fun w=>by have h:=LE.out k hk w;simp only [hk2,decide_false] at h;exact h
    have HV2:=b6 (HV.out k (by omega))
    have kw:=HH.out.2 k hk
    have hk100:=HH.out.1
    clear LE HV HH
    go_wp2_with (first|(go_at_call 319;(with_reducible refine am (LE2.out _) ?_);intro w' hb;replace hb:=mU;obtain ⟨hcell,hfroz,hz,_⟩:=mB;(try have zz0:EU<w'.heap.size:=by omega);(try have zy0:EU<w'.heap.size+1:=by omega);(try have zz1:BL<w'.heap.size:=by omega);(try have zy1:BL<w'.heap.size+1:=by omega);(try have zz2:w.heap.size<w'.heap.size:=by omega);(try have zy2:w.heap.size<w'.heap.size+1:=by omega))|(go_at_call 318;(with_reducible refine am (HV2.out _) ?_);intro w' hb;replace hb:=mU;obtain ⟨hcell,hfroz,hz,_⟩:=mB;(try have zz0:EU<w'.heap.size:=by omega);(try have zy0:EU<w'.heap.size+1:=by omega);(try have zz1:BL<w'.heap.size:=by omega);(try have zy1:BL<w'.heap.size+1:=by omega);(try have zz2:w.heap.size<w'.heap.size:=by omega);(try have zy2:w.heap.size<w'.heap.size+1:=by omega)))
    refine ⟨⟨k+1,rfl,by omega,?_,?_,?_,?_,?_,?_,?_,?_,?_,?_,?_,?_,bw⟩,by simp [intOf];omega⟩
    all_goals (simp [go_sem, *];done)
end Go.Proofs.YtdhbeoahpfimbaaGreat
