/- Part of the proof of TopDistances. -/
import Derived.Test.YtdhbeoahpfimbaaGreatPk
import Derived.Test.YtdhbeoahpfimbaaGreatPd
namespace Go.Proofs.YtdhbeoahpfimbaaGreat
open Go.RowKit Rot
theorem a0S:x6=2^192:=by decide
theorem GX:eW=aP:=by decide
set_option maxRecDepth 100000 in
theorem pG (e:Nat) (a b c d p q r s:Int) (w:World):(Op.equalIn (e+1+1) 308 (.agg #[.int .u64 a,.int .u64 b,.int .u64 c,.int .u64 d]) (.agg #[.int .u64 p,.int .u64 q,.int .u64 r,.int .u64 s])).run Tryz.prog w= .ok (decide (a=p/\b=q/\c=r/\d=s)) w:=by
 obtain ⟨i,hi⟩:=Option.isSome_iff_exists.1 a05
 rw [run_equalIn_array w (e+1) _ _ Tryz.underlying308 hi,PJ]
 have hr:List.range 4=[0,1,2,3]:=rfl
 rw [hr]
 simp only [Op.eqItems]
 have p0:∀(x y z u:Value) (w:World),(part 168 #[x,y,z,u] 0).run Tryz.prog w= .ok x w:=fun _ _ _ _ _=>by kernel_rfl
 have p1:∀(x y z u:Value) (w:World),(part 168 #[x,y,z,u] 1).run Tryz.prog w= .ok y w:=fun _ _ _ _ _=>by kernel_rfl
 have p2:∀(x y z u:Value) (w:World),(part 168 #[x,y,z,u] 2).run Tryz.prog w= .ok z w:=fun _ _ _ _ _=>by kernel_rfl
 have p3:∀(x y z u:Value) (w:World),(part 168 #[x,y,z,u] 3).run Tryz.prog w= .ok u w:=fun _ _ _ _ _=>by kernel_rfl
 have hq:∀(x y:Int) (w:World),(Op.equalIn (e+1) 168 (.int .u64 x) (.int .u64 y)).run Tryz.prog w= .ok (x==y) w:=fun x y w=>run_equalIn_int w e _ _ _ x y Tryz.underlying168
 simp only [Nat.mul_one,Sem.run_bind,p0,hq,Result.andThen_ok]
 by_cases h0:a=p
 ·by_cases h1:b=q
  ·by_cases h2:c=r
   ·by_cases h3:d=s
    ·simp [h0,h1,h2,h3,p1,p2,p3,hq]
    ·simp [h0,h1,h2,h3,p1,p2,p3,hq]
   ·simp [h0,h1,h2,p1,p2,p3,hq]
  ·simp [h0,h1,p1,p2,p3,hq]
 ·simp [h0]
set_option maxRecDepth 100000 in
set_option maxHeartbeats 40000000 in
theorem DJ (n:Nat) (T:Nat->Int) (A Q V:Int) (w:World) (hn:n<=4800002) (hA:aP*n/10800000=A) (ab:0<=A/\A<=2*2^192/\0<=Q/\Q<=2*2^192) (hQ:A*A/2^192=Q) (T0:T 0=A)
  (TS:∀j:Nat,T (j+1)=T j*Q/2^192/((2*(j:Int)+2)*(2*(j:Int)+3))) (TH:∀j,0<=T j/\2*T (j+1)<=T j/\T j*Q/2^192<=2*T j) (TP:∀j,T j*2^j<=A) (TE:∀i,i<=100->T (2*i)=0->pS T i-mS T i=V):
  Calls Tryz.prog 313 #[.int .i64 n] w fun e w'=>e= .returned (H8 V)/\Below w.heap.size w w':=by
 have hW:8*x6<o6/\0<x6:=by decide
 have W1:=a0S
 have pb:0<=aP/\aP<o6/\aP*4800002<o6:=by decide
 obtain ⟨P,hP0⟩:∃P,aP=P:=⟨_,rfl⟩
 rw [hP0] at pb hA
 have pn:0<=P*n/\P*n<o6:=⟨Int.mul_nonneg pb.1 (by omega),by have:=Int.mul_le_mul_of_nonneg_left (show (n:Int)<=4800002 by omega) pb.1;omega⟩
 obtain ⟨c0,c1,c2,c3,HC⟩:=H0 P pb.1 pb.2.1
 obtain ⟨d0,d1,d2,d3,HD⟩:=H0 (P*n) pn.1 pn.2
 obtain ⟨a0,a1,a2,a3,HX⟩:=H0 A ab.1 (by omega)
 obtain ⟨q0,q1,q2,q3,HQ⟩:=H0 Q ab.2.2.1 (by omega)
 have HP:CB 324 #[] (.agg #[.int .u64 c0,.int .u64 c1,.int .u64 c2,.int .u64 c3]):=b6 fun w=>by have h:=UJ w;rw [GX,hP0,rwo HC] at h;exact h
 have HB:CB 322 #[.agg #[.int .u64 c0,.int .u64 c1,.int .u64 c2,.int .u64 c3],.int .u64 n] (.agg #[.int .u64 d0,.int .u64 d1,.int .u64 d2,.int .u64 d3]):=b6 fun w=>by have h:=kI P n w pb.1 pb.2.1 (by unfold v7;omega);rw [Int.emod_eq_of_lt pn.1 pn.2,rwo HC,rwo HD] at h;exact h
 have HO:CB 320 #[.agg #[.int .u64 d0,.int .u64 d1,.int .u64 d2,.int .u64 d3],.int .u64 10800000] (.agg #[.int .u64 a0,.int .u64 a1,.int .u64 a2,.int .u64 a3]):=b6 fun w=>by have h:=aY (P*n) 10800000 w pn.1 pn.2 (by omega) (by omega);rw [rwo HD] at h;rw [hA,rwo HX] at h;exact h
 have HT:CB 343 #[.agg #[.int .u64 a0,.int .u64 a1,.int .u64 a2,.int .u64 a3],.agg #[.int .u64 a0,.int .u64 a1,.int .u64 a2,.int .u64 a3]] (.agg #[.int .u64 q0,.int .u64 q1,.int .u64 q2,.int .u64 q3]):=b6 fun w=>by
  have h:=gR A A w ab.1 (by omega) ab.1 (by omega)
  rw [W1,hQ,Int.emod_eq_of_lt ab.2.2.1 (by omega),rwo HX,rwo HQ] at h;exact h
 have HH:=b6 (And.intro hW (And.intro ab (And.intro W1 (And.intro HX (And.intro HQ (And.intro T0 (And.intro TS (And.intro TH (And.intro TP TE)))))))))
 have Z0:fY 0 0 0 0 0:=⟨mE,by unfold v7;omega,by unfold v7;omega,by unfold v7;omega,by unfold v7;omega,by unfold nv;omega⟩
 have SX:Hid (fY (T 0) a0 a1 a2 a3):=b6 (by rw [T0];exact HX)
 have ZH:=b6 Z0
 have kn:IntKind.u64.wrap (n:Int)=n:=by rw [IntKind.wrap_u64];omega
 clear hW ab pb W1 pn HC HD HX HQ Z0 hA hQ T0 TS TH TP TE hP0
 go_enter Tryz.func313,Tryz.ntmps313
 go_wp2_with (first|(go_at_call 324;(with_reducible refine am (HP.out _) ?_);intro w' hb;replace hb:=mU;obtain ⟨hcell,hfroz,hz,_⟩:=mB;(try have zz0:w.heap.size<w'.heap.size:=by omega);(try have zy0:w.heap.size<w'.heap.size+1:=by omega);(try have zz1:w3.heap.size<w'.heap.size:=by omega);(try have zy1:w3.heap.size<w'.heap.size+1:=by omega);obtain ⟨w1,rfl⟩:=nm w')|(go_at_call 322;(with_reducible refine am (HB.out _) ?_);intro w' hb;replace hb:=mU;obtain ⟨hcell,hfroz,hz,_⟩:=mB;(try have zz0:w.heap.size<w'.heap.size:=by omega);(try have zy0:w.heap.size<w'.heap.size+1:=by omega);(try have zz1:w3.heap.size<w'.heap.size:=by omega);(try have zy1:w3.heap.size<w'.heap.size+1:=by omega);obtain ⟨w2,rfl⟩:=nm w')|(go_at_call 320;(with_reducible refine am (HO.out _) ?_);intro w' hb;replace hb:=mU;obtain ⟨hcell,hfroz,hz,_⟩:=mB;(try have zz0:w.heap.size<w'.heap.size:=by omega);(try have zy0:w.heap.size<w'.heap.size+1:=by omega);(try have zz1:w3.heap.size<w'.heap.size:=by omega);(try have zy1:w3.heap.size<w'.heap.size+1:=by omega);obtain ⟨w3,rfl⟩:=nm w')|(go_at_call 343;(with_reducible refine am (HT.out _) ?_);intro w' hb;replace hb:=mU;obtain ⟨hcell,hfroz,hz,_⟩:=mB;(try have zz0:w.heap.size<w'.heap.size:=by omega);(try have zy0:w.heap.size<w'.heap.size+1:=by omega);(try have zz1:w3.heap.size<w'.heap.size:=by omega);(try have zy1:w3.heap.size<w'.heap.size+1:=by omega);obtain ⟨w4,rfl⟩:=nm w'))
 refine m9 ?_
 intro w' hb
 replace hb:=mU;obtain ⟨hcell,hfroz,hz,_⟩:=mB
 have zA:w.heap.size<w4.heap.size+1+1+1+1:=by omega
 have zB:w.heap.size<w4.heap.size+1+1+1:=by omega
 have zC:w.heap.size<w4.heap.size+1+1:=by omega
 have zD:w.heap.size<w4.heap.size+1:=by omega
 have k0:=A7 w' w4.heap.size 0 q0
 have k1:=A7 w' w4.heap.size 1 q1
 have k2:=A7 w' w4.heap.size 2 q2
 have k3:=A7 w' w4.heap.size 3 q3
 have k4:=A7 w' (w4.heap.size+1) 0 0
 have k5:=A7 w' (w4.heap.size+1) 1 0
 have k6:=A7 w' (w4.heap.size+1) 2 0
 have k7:=A7 w' (w4.heap.size+1) 3 0
 have k8:=A7 w' (w4.heap.size+1+1) 0 0
 have k9:=A7 w' (w4.heap.size+1+1) 1 0
 have k10:=A7 w' (w4.heap.size+1+1) 2 0
 have k11:=A7 w' (w4.heap.size+1+1) 3 0
 have k12:=A7 w' (w4.heap.size+1+1+1) 0 a0
 have k13:=A7 w' (w4.heap.size+1+1+1) 1 a1
 have k14:=A7 w' (w4.heap.size+1+1+1) 2 a2
 have k15:=A7 w' (w4.heap.size+1+1+1) 3 a3
 have k16:=A7 w' w.heap.size 0 0
 have k17:=A7 w' w.heap.size 1 0
 have k18:=A7 w' w.heap.size 2 0
 have k19:=A7 w' w.heap.size 3 0
 have f0:∀o,w'.frozen? ⟨w.heap.size,o,none⟩=false:=by intro o;simp [go_sem, *]
 have f1:∀o,w'.frozen? ⟨w4.heap.size+1,o,none⟩=false:=by intro o;simp [go_sem, *]
 have f2:∀o,w'.frozen? ⟨w4.heap.size+1+1,o,none⟩=false:=by intro o;simp [go_sem, *]
 have f3:∀o,w'.frozen? ⟨w4.heap.size+1+1+1,o,none⟩=false:=by intro o;simp [go_sem, *]
 have hw0:Below w.heap.size w w':=bw
 have o1:w.heap.size<w4.heap.size:=by omega
 clear hcell hfroz hz hb
 obtain ⟨V0,rfl⟩:=nm w'
 obtain ⟨Bq,hBq⟩:∃B,w4.heap.size=B:=⟨_,rfl⟩
 rw [hBq] at k0 k1 k2 k3 k4 k5 k6 k7 k8 k9 k10 k11 k12 k13 k14 k15 f1 f2 f3 o1 ⊢
 go_loopw [7,8] (fun s7 s8 wr=>∃(i B7:Nat) (k p0 p1 p2 p3 l0 l1 l2 l3 t0 t1 t2 t3:Int),s7= .pointer (some ⟨B7,0,none⟩)/\s8= .int .u64 k/\k=4*(i:Int)+2/\i<=98/\Bq+1+1<B7/\Hid (fY (pS (T) i) p0 p1 p2 p3)/\Hid (fY (mS (T) i) l0 l1 l2 l3)/\Hid (fY (T (2*i)) t0 t1 t2 t3)/\wr.cell? ⟨Bq,0,none⟩=some (.int .u64 q0)/\wr.cell? ⟨Bq,1,none⟩=some (.int .u64 q1)/\wr.cell? ⟨Bq,2,none⟩=some (.int .u64 q2)/\wr.cell? ⟨Bq,3,none⟩=some (.int .u64 q3)/\wr.cell? ⟨Bq+1,0,none⟩=some (.int .u64 p0)/\wr.cell? ⟨Bq+1,1,none⟩=some (.int .u64 p1)/\wr.cell? ⟨Bq+1,2,none⟩=some (.int .u64 p2)/\wr.cell? ⟨Bq+1,3,none⟩=some (.int .u64 p3)/\wr.cell? ⟨Bq+1+1,0,none⟩=some (.int .u64 l0)/\wr.cell? ⟨Bq+1+1,1,none⟩=some (.int .u64 l1)/\wr.cell? ⟨Bq+1+1,2,none⟩=some (.int .u64 l2)/\wr.cell? ⟨Bq+1+1,3,none⟩=some (.int .u64 l3)/\wr.cell? ⟨B7,0,none⟩=some (.int .u64 t0)/\wr.cell? ⟨B7,1,none⟩=some (.int .u64 t1)/\wr.cell? ⟨B7,2,none⟩=some (.int .u64 t2)/\wr.cell? ⟨B7,3,none⟩=some (.int .u64 t3)/\wr.cell? ⟨w.heap.size,0,none⟩=some (.int .u64 0)/\wr.cell? ⟨w.heap.size,1,none⟩=some (.int .u64 0)/\wr.cell? ⟨w.heap.size,2,none⟩=some (.int .u64 0)/\wr.cell? ⟨w.heap.size,3,none⟩=some (.int .u64 0)/\Hid (∀o,wr.frozen? ⟨w.heap.size,o,none⟩=false)/\Hid (∀o,wr.frozen? ⟨Bq+1,o,none⟩=false)/\Hid (∀o,wr.frozen? ⟨Bq+1+1,o,none⟩=false)/\Hid (∀o,wr.frozen? ⟨B7,o,none⟩=false)/\Below w.heap.size w wr) (fun _ s8 _=>(1000-intOf s8).toNat)
 case atStart=>exact ⟨0,_,2,0,0,0,0,0,0,0,0,a0,a1,a2,a3,rfl,rfl,by omega,by omega,by omega,ZH,ZH,SX,k0,k1,k2,k3,k4,k5,k6,k7,k8,k9,k10,k11,k12,k13,k14,k15,k16,k17,k18,k19,b6 f0,b6 f1,b6 f2,b6 f3,hw0⟩
 case round=>
  obtain ⟨i,B7,k,p0,p1,p2,p3,l0,l1,l2,l3,t0,t1,t2,t3,rfl,rfl,hk,hi,hB7,hP,hM,hT,j0,j1,j2,j3,j4,j5,j6,j7,j8,j9,j10,j11,j12,j13,j14,j15,j16,j17,j18,j19,g0,g1,g2,g3,hY⟩:=hrel
  clear k0 k1 k2 k3 k4 k5 k6 k7 k8 k9 k10 k11 k12 k13 k14 k15 k16 k17 k18 k19 f0 f1 f2 f3 hw0 zA zB zC zD
  have u0:=g0.out
  have u1:=g1.out
  have u2:=g2.out
  have u3:=g3.out
  have bt:B7<wr.heap.size:=World.block_lt_of_cell? _ _ j12
  have bm:Bq+1+1<wr.heap.size:=by omega
  have bp:Bq+1<wr.heap.size:=by omega
  have bq:Bq<wr.heap.size:=by omega
  have br:w.heap.size<wr.heap.size:=by omega
  have n1:(B7=Bq)=False:=eq_false (by omega)
  have m1:(Bq=B7)=False:=eq_false (by omega)
  have n2:(B7=Bq+1)=False:=eq_false (by omega)
  have m2:(Bq+1=B7)=False:=eq_false (by omega)
  have n3:(B7=Bq+1+1)=False:=eq_false (by omega)
  have m3:(Bq+1+1=B7)=False:=eq_false (by omega)
  have n4:(B7=w.heap.size)=False:=eq_false (by omega)
  have m4:(w.heap.size=B7)=False:=eq_false (by omega)
  have n5:(Bq=w.heap.size)=False:=eq_false (by omega)
  have m5:(w.heap.size=Bq)=False:=eq_false (by omega)
  have n6:(Bq+1=w.heap.size)=False:=eq_false (by omega)
  have m6:(w.heap.size=Bq+1)=False:=eq_false (by omega)
  have n7:(Bq+1+1=w.heap.size)=False:=eq_false (by omega)
  have m7:(w.heap.size=Bq+1+1)=False:=eq_false (by omega)
  obtain ⟨hW,ab,W1,HX,HQ,T0,TS,TH,TP,TE⟩:=HH.out
  have hh:=TH
  have pbd:=a03 (T) (fun j=>(hh j).1) (fun j=>(hh j).2.1) i
  have pbd2:=a03 (T) (fun j=>(hh j).1) (fun j=>(hh j).2.1) (i+1)
  by_cases hz:T (2*i)=0
  ·have z:t0=0/\t1=0/\t2=0/\t3=0:=by
    have h:=hT.out
    have e:=h.2.2.2.2.2
    unfold fY v7 at h
    rw [hz] at e
    unfold nv at e
    omega
   obtain ⟨rfl,rfl,rfl,rfl⟩:=z
   have fin:=TE i (by omega) hz
   have D:=dZ (pS (T) i) (mS (T) i)
   obtain ⟨v0,v1,v2,v3,HV⟩:=H0 V (by rw [<-fin];omega) (by rw [<-fin];omega)
   have x1:0<=pS T i:=by omega
   have x2:pS T i<o6:=by omega
   have x3:0<=mS T i:=by omega
   have x4:mS T i<o6:=by omega
   have x5:V%o6=V:=Int.emod_eq_of_lt (by omega) (by omega)
   have HD2:CB 317 #[.agg #[.int .u64 p0,.int .u64 p1,.int .u64 p2,.int .u64 p3],.agg #[.int .u64 l0,.int .u64 l1,.int .u64 l2,.int .u64 l3]] (.agg #[.int .u64 v0,.int .u64 v1,.int .u64 v2,.int .u64 v3]):=b6 fun w=>by
    have h:=D w x1 x2 x3 x4
    rw [fin,x5,rwo hP.out,rwo hM.out,rwo HV] at h
    exact h
   have E:=b6 (rwo HV)
   clear x1 x2 x3 x4 x5 hh pbd pbd2 hW ab W1 HX HQ fin D HV hP hM hT hz T0 TS TH TP TE
   have eqz:∀w,(Op.equalIn 10000 308 (.agg #[.int .u64 0,.int .u64 0,.int .u64 0,.int .u64 0]) (.agg #[.int .u64 0,.int .u64 0,.int .u64 0,.int .u64 0])).run Tryz.prog w= .ok true w:=fun w=>by rw [pG 9998];simp
   go_wp2_with (first|(go_at_call 317;(with_reducible refine am (HD2.out _) ?_);intro w' hb;replace hb:=mU;obtain ⟨hcell,hfroz,hz,_⟩:=mB;(try have zz0:w.heap.size<w'.heap.size:=by omega);(try have zy0:w.heap.size<w'.heap.size+1:=by omega);(try have zz1:Bq<w'.heap.size:=by omega);(try have zy1:Bq<w'.heap.size+1:=by omega);(try have zz2:Bq+1<w'.heap.size:=by omega);(try have zy2:Bq+1<w'.heap.size+1:=by omega);(try have zz3:Bq+1+1<w'.heap.size:=by omega);(try have zy3:Bq+1+1<w'.heap.size+1:=by omega);(try have zz4:B7<w'.heap.size:=by omega);(try have zy4:B7<w'.heap.size+1:=by omega)))
   exact bodyPost_ret (v:= .agg #[.int .u64 v0,.int .u64 v1,.int .u64 v2,.int .u64 v3]) (by first|(simp only [results,Tryz.results313];go_simp;done)|simp [results,Tryz.results313,go_sem, *]) rfl ⟨by rw [E.out],bw⟩
  ·have tp:=TP (2*i)
   have hi2:i<=96:=by
    apply Classical.byContradiction
    intro g
    have p1:(2:Int)^194<=2^(2*i):=by
     obtain ⟨d,hd⟩:∃d,2*i=194+d:=⟨2*i-194,by omega⟩
     rw [hd,Int.pow_add]
     have:(1:Int)<=2^d:=Int.pow_pos (by decide)
     have:=Int.mul_le_mul_of_nonneg_left this (show (0:Int)<=2^194 by decide)
     omega
    have p2:=Int.mul_le_mul_of_nonneg_right (show 1<=T (2*i) by have:=(TH (2*i)).1;omega) (show (0:Int)<=2^(2*i) from Int.le_of_lt (Int.pow_pos (by decide)))
    omega
   have ta:=TH (2*i)
   have tb:=TH (2*i+1)
   have tc:=TH (2*i+2)
   have e1:=TS (2*i)
   have e2:=TS (2*i+1)
   rw [show 2*i+1+1=2*i+2 by omega] at e2 tb
   obtain ⟨D1,hD1⟩:∃D,(4*(i:Int)+2)*(4*(i:Int)+3)=D:=⟨_,rfl⟩
   obtain ⟨D2,hD2⟩:∃D,(4*(i:Int)+4)*(4*(i:Int)+5)=D:=⟨_,rfl⟩
   rw [show (2*((2*i:Nat):Int)+2)*(2*((2*i:Nat):Int)+3)=D1 by rw [<-hD1];congr 1<;>omega] at e1
   rw [show (2*((2*i+1:Nat):Int)+2)*(2*((2*i+1:Nat):Int)+3)=D2 by rw [<-hD2];congr 1<;>omega] at e2
   have dd1:0<D1/\D1<=1000000:=by rw [<-hD1];exact ⟨Int.mul_pos (by omega) (by omega),Int.le_trans (Int.mul_le_mul (show 4*(i:Int)+2<=1000 by omega) (show 4*(i:Int)+3<=1000 by omega) (by omega) (by omega)) (by omega)⟩
   have dd2:0<D2/\D2<=1000000:=by rw [<-hD2];exact ⟨Int.mul_pos (by omega) (by omega),Int.le_trans (Int.mul_le_mul (show 4*(i:Int)+4<=1000 by omega) (show 4*(i:Int)+5<=1000 by omega) (by omega) (by omega)) (by omega)⟩
   have kw1:IntKind.u64.wrap (k+1)=4*(i:Int)+3:=by rw [IntKind.wrap_u64];omega
   have kw2:IntKind.u64.wrap (k*(4*(i:Int)+3))=D1:=by rw [hk,hD1,IntKind.wrap_u64];omega
   have kw3:IntKind.u64.wrap (k+2)=4*(i:Int)+4:=by rw [IntKind.wrap_u64];omega
   have kw4:IntKind.u64.wrap (k+3)=4*(i:Int)+5:=by rw [IntKind.wrap_u64];omega
   have kw5:IntKind.u64.wrap ((4*(i:Int)+4)*(4*(i:Int)+5))=D2:=by rw [hD2,IntKind.wrap_u64];omega
   have kw6:IntKind.u64.wrap (k+4)=4*((i+1:Nat):Int)+2:=by rw [IntKind.wrap_u64];omega
   have sp:pS T (i+1)=pS T i+T (2*i):=rfl
   have sm:mS T (i+1)=mS T i+T (2*i+1):=rfl
   rw [sp,sm] at pbd2
   have tz:2*T (2*(i+1))=2*T (2*i+2):=by congr 2
   rw [tz] at pbd2
   have z1:0<=T (2*i)*Q/2^192:=Int.ediv_nonneg (Int.mul_nonneg ta.1 ab.2.2.1) (by decide)
   have z2:0<=T (2*i+1)*Q/2^192:=Int.ediv_nonneg (Int.mul_nonneg tb.1 ab.2.2.1) (by decide)
   obtain ⟨Z1,hZ1⟩:∃Z,T (2*i)*Q/2^192=Z:=⟨_,rfl⟩
   obtain ⟨Z2,hZ2⟩:∃Z,T (2*i+1)*Q/2^192=Z:=⟨_,rfl⟩
   have M1:=fun w=>gR (T (2*i)) Q w
   have M2:=fun w=>gR (T (2*i+1)) Q w
   rw [W1,hZ1] at M1
   rw [W1,hZ2] at M2
   rw [hZ1] at e1 z1 ta
   rw [hZ2] at e2 z2 tb
   obtain ⟨A2,hA2⟩:∃x,T (2*i)=x:=⟨_,rfl⟩
   obtain ⟨B2,hB2⟩:∃x,T (2*i+1)=x:=⟨_,rfl⟩
   obtain ⟨C2,hC2⟩:∃x,T (2*i+2)=x:=⟨_,rfl⟩
   obtain ⟨P2,hP2⟩:∃x,pS T i=x:=⟨_,rfl⟩
   obtain ⟨L2,hL2⟩:∃x,mS T i=x:=⟨_,rfl⟩
   rw [hA2,hB2] at ta
   rw [hB2,hC2] at tb
   rw [hC2] at tc
   rw [hB2] at e1
   rw [hC2] at e2
   rw [hP2,hL2,hA2,hB2,hC2] at pbd2
   rw [hP2,hL2,hA2] at pbd
   rw [hA2] at hT M1 hz
   rw [hB2] at M2
   rw [hP2] at hP
   rw [hL2] at hM
   rw [hP2,hA2] at sp
   rw [hL2,hB2] at sm
   have qq1:Z1<o6:=by omega
   have qq2:Z2<o6:=by omega
   obtain ⟨za0,za1,za2,za3,HZ1⟩:=H0 Z1 z1 qq1
   obtain ⟨zb0,zb1,zb2,zb3,HZ2⟩:=H0 Z2 z2 qq2
   obtain ⟨tb0,tb1,tb2,tb3,HTB⟩:=H0 B2 tb.1 (by omega)
   obtain ⟨tc0,tc1,tc2,tc3,HTC⟩:=H0 C2 tc.1 (by omega)
   obtain ⟨pa0,pa1,pa2,pa3,HPA⟩:=H0 (P2+A2) (by omega) (by omega)
   obtain ⟨la0,la1,la2,la3,HLA⟩:=H0 (L2+B2) (by omega) (by omega)
   have w1':Z1%o6=Z1:=Int.emod_eq_of_lt z1 qq1
   have w2':Z2%o6=Z2:=Int.emod_eq_of_lt z2 qq2
   have w3':(P2+A2)%o6=P2+A2:=Int.emod_eq_of_lt (by omega) (by omega)
   have w4':(L2+B2)%o6=L2+B2:=Int.emod_eq_of_lt (by omega) (by omega)
   have b1':0<=P2/\P2<o6/\0<=L2/\L2<o6/\A2<o6/\B2<o6/\Q<o6:=by omega
   have hA1:CB 315 #[.agg #[.int .u64 p0,.int .u64 p1,.int .u64 p2,.int .u64 p3],.agg #[.int .u64 t0,.int .u64 t1,.int .u64 t2,.int .u64 t3]] (.agg #[.int .u64 pa0,.int .u64 pa1,.int .u64 pa2,.int .u64 pa3]):=b6 fun w=>by have h:=aJ P2 A2 w b1'.1 b1'.2.1 ta.1 b1'.2.2.2.2.1;rw [w3',rwo hP.out,rwo hT.out,rwo HPA] at h;exact h
   have hA2':CB 315 #[.agg #[.int .u64 l0,.int .u64 l1,.int .u64 l2,.int .u64 l3],.agg #[.int .u64 tb0,.int .u64 tb1,.int .u64 tb2,.int .u64 tb3]] (.agg #[.int .u64 la0,.int .u64 la1,.int .u64 la2,.int .u64 la3]):=b6 fun w=>by have h:=aJ L2 B2 w b1'.2.2.1 b1'.2.2.2.1 tb.1 b1'.2.2.2.2.2.1;rw [w4',rwo hM.out,rwo HTB,rwo HLA] at h;exact h
   have hT1:CB 343 #[.agg #[.int .u64 t0,.int .u64 t1,.int .u64 t2,.int .u64 t3],.agg #[.int .u64 q0,.int .u64 q1,.int .u64 q2,.int .u64 q3]] (.agg #[.int .u64 za0,.int .u64 za1,.int .u64 za2,.int .u64 za3]):=b6 fun w=>by have h:=M1 w ta.1 b1'.2.2.2.2.1 ab.2.2.1 b1'.2.2.2.2.2.2;rw [w1',rwo hT.out,rwo HQ,rwo HZ1] at h;exact h
   have hT2:CB 343 #[.agg #[.int .u64 tb0,.int .u64 tb1,.int .u64 tb2,.int .u64 tb3],.agg #[.int .u64 q0,.int .u64 q1,.int .u64 q2,.int .u64 q3]] (.agg #[.int .u64 zb0,.int .u64 zb1,.int .u64 zb2,.int .u64 zb3]):=b6 fun w=>by have h:=M2 w tb.1 b1'.2.2.2.2.2.1 ab.2.2.1 b1'.2.2.2.2.2.2;rw [w2',rwo HTB,rwo HQ,rwo HZ2] at h;exact h
   have hO1:CB 320 #[.agg #[.int .u64 za0,.int .u64 za1,.int .u64 za2,.int .u64 za3],.int .u64 D1] (.agg #[.int .u64 tb0,.int .u64 tb1,.int .u64 tb2,.int .u64 tb3]):=b6 fun w=>by have h:=aY Z1 D1 w z1 qq1 dd1.1 (by omega);rw [<-e1,rwo HZ1,rwo HTB] at h;exact h
   have hO2:CB 320 #[.agg #[.int .u64 zb0,.int .u64 zb1,.int .u64 zb2,.int .u64 zb3],.int .u64 D2] (.agg #[.int .u64 tc0,.int .u64 tc1,.int .u64 tc2,.int .u64 tc3]):=b6 fun w=>by have h:=aY Z2 D2 w z2 qq2 dd2.1 (by omega);rw [<-e2,rwo HZ2,rwo HTC] at h;exact h
   have nz:¬(t0=0/\t1=0/\t2=0/\t3=0):=by
    intro ⟨f0,f1,f2,f3⟩
    have e:=hT.out.2.2.2.2.2
    unfold nv at e
    omega
   have FP:Hid (fY (pS T (i+1)) pa0 pa1 pa2 pa3):=b6 (by rw [sp];exact HPA)
   have FL:Hid (fY (mS T (i+1)) la0 la1 la2 la3):=b6 (by rw [sm];exact HLA)
   have FT:Hid (fY (T (2*(i+1))) tc0 tc1 tc2 tc3):=b6 (by rw [show 2*(i+1)=2*i+2 by omega,hC2];exact HTC)
   clear tp ta tb tc e1 e2 hD1 hD2 dd1 dd2 sp sm pbd pbd2 tz z1 z2 hZ1 hZ2 M1 M2 hA2 hB2 hC2 hP2 hL2 qq1 qq2 HZ1 HZ2 HTB HTC HPA HLA w1' w2' w3' w4' b1' hP hM hT hz hh hW ab W1 HX HQ T0 TS TH TP TE
   have eqz:∀w,(Op.equalIn 10000 308 (.agg #[.int .u64 t0,.int .u64 t1,.int .u64 t2,.int .u64 t3]) (.agg #[.int .u64 0,.int .u64 0,.int .u64 0,.int .u64 0])).run Tryz.prog w= .ok false w:=fun w=>by rw [pG 9998];simp only [nz,decide_false]
   have HK:=b6 hk
   clear nz hk
   go_upto_region 10 with (first|(go_at_call 315;(first|(with_reducible refine (hA1.out _).mono ?_)|(with_reducible refine (hA2'.out _).mono ?_));rintro e w' ⟨rfl,hb⟩;replace hb:=mU;obtain ⟨hcell,hfroz,hz,_⟩:=mB;(try have zz0:w.heap.size<w'.heap.size:=by omega);(try have zy0:w.heap.size<w'.heap.size+1:=by omega);(try have zz1:Bq<w'.heap.size:=by omega);(try have zy1:Bq<w'.heap.size+1:=by omega);(try have zz2:Bq+1<w'.heap.size:=by omega);(try have zy2:Bq+1<w'.heap.size+1:=by omega);(try have zz3:Bq+1+1<w'.heap.size:=by omega);(try have zy3:Bq+1+1<w'.heap.size+1:=by omega);(try have zz4:B7<w'.heap.size:=by omega);(try have zy4:B7<w'.heap.size+1:=by omega))|(go_at_call 343;(first|(with_reducible refine (hT1.out _).mono ?_)|(with_reducible refine (hT2.out _).mono ?_));rintro e w' ⟨rfl,hb⟩;replace hb:=mU;obtain ⟨hcell,hfroz,hz,_⟩:=mB;(try have zz0:w.heap.size<w'.heap.size:=by omega);(try have zy0:w.heap.size<w'.heap.size+1:=by omega);(try have zz1:Bq<w'.heap.size:=by omega);(try have zy1:Bq<w'.heap.size+1:=by omega);(try have zz2:Bq+1<w'.heap.size:=by omega);(try have zy2:Bq+1<w'.heap.size+1:=by omega);(try have zz3:Bq+1+1<w'.heap.size:=by omega);(try have zy3:Bq+1+1<w'.heap.size+1:=by omega);(try have zz4:B7<w'.heap.size:=by omega);(try have zy4:B7<w'.heap.size+1:=by omega))|(go_at_call 320;(first|(with_reducible refine (hO1.out _).mono ?_)|(with_reducible refine (hO2.out _).mono ?_));rintro e w' ⟨rfl,hb⟩;replace hb:=mU;obtain ⟨hcell,hfroz,hz,_⟩:=mB;(try have zz0:w.heap.size<w'.heap.size:=by omega);(try have zy0:w.heap.size<w'.heap.size+1:=by omega);(try have zz1:Bq<w'.heap.size:=by omega);(try have zy1:Bq<w'.heap.size+1:=by omega);(try have zz2:Bq+1<w'.heap.size:=by omega);(try have zy2:Bq+1<w'.heap.size+1:=by omega);(try have zz3:Bq+1+1<w'.heap.size:=by omega);(try have zy3:Bq+1+1<w'.heap.size+1:=by omega);(try have zz4:B7<w'.heap.size:=by omega);(try have zy4:B7<w'.heap.size+1:=by omega)))
   refine m9 ?_
   intro w' hb
   replace hb:=mU;obtain ⟨hcell,hfroz,hz,_⟩:=mB
   have:(w.heap.size<w'.heap.size):=by omega
   have:(Bq<w'.heap.size):=by omega
   have:(Bq+1<w'.heap.size):=by omega
   have:(Bq+1+1<w'.heap.size):=by omega
   have:(B7<w'.heap.size):=by omega
   have c0':w'.cell? ⟨Bq,0,none⟩=some (.int .u64 q0):=by simp [go_sem, *]
   have c1':w'.cell? ⟨Bq,1,none⟩=some (.int .u64 q1):=by simp [go_sem, *]
   have c2':w'.cell? ⟨Bq,2,none⟩=some (.int .u64 q2):=by simp [go_sem, *]
   have c3':w'.cell? ⟨Bq,3,none⟩=some (.int .u64 q3):=by simp [go_sem, *]
   have c4':w'.cell? ⟨Bq+1,0,none⟩=some (.int .u64 pa0):=by simp [go_sem, *]
   have c5':w'.cell? ⟨Bq+1,1,none⟩=some (.int .u64 pa1):=by simp [go_sem, *]
   have c6':w'.cell? ⟨Bq+1,2,none⟩=some (.int .u64 pa2):=by simp [go_sem, *]
   have c7':w'.cell? ⟨Bq+1,3,none⟩=some (.int .u64 pa3):=by simp [go_sem, *]
   have c8':w'.cell? ⟨Bq+1+1,0,none⟩=some (.int .u64 la0):=by simp [go_sem, *]
   have c9':w'.cell? ⟨Bq+1+1,1,none⟩=some (.int .u64 la1):=by simp [go_sem, *]
   have c10':w'.cell? ⟨Bq+1+1,2,none⟩=some (.int .u64 la2):=by simp [go_sem, *]
   have c11':w'.cell? ⟨Bq+1+1,3,none⟩=some (.int .u64 la3):=by simp [go_sem, *]
   have c12':w'.cell? ⟨B7,0,none⟩=some (.int .u64 tb0):=by simp [go_sem, *]
   have c13':w'.cell? ⟨B7,1,none⟩=some (.int .u64 tb1):=by simp [go_sem, *]
   have c14':w'.cell? ⟨B7,2,none⟩=some (.int .u64 tb2):=by simp [go_sem, *]
   have c15':w'.cell? ⟨B7,3,none⟩=some (.int .u64 tb3):=by simp [go_sem, *]
   have c16':w'.cell? ⟨w.heap.size,0,none⟩=some (.int .u64 0):=by simp [go_sem, *]
   have c17':w'.cell? ⟨w.heap.size,1,none⟩=some (.int .u64 0):=by simp [go_sem, *]
   have c18':w'.cell? ⟨w.heap.size,2,none⟩=some (.int .u64 0):=by simp [go_sem, *]
   have c19':w'.cell? ⟨w.heap.size,3,none⟩=some (.int .u64 0):=by simp [go_sem, *]
   have x0':∀o,w'.frozen? ⟨w.heap.size,o,none⟩=false:=by intro o;simp [go_sem, *]
   have x1':∀o,w'.frozen? ⟨Bq+1,o,none⟩=false:=by intro o;simp [go_sem, *]
   have x2':∀o,w'.frozen? ⟨Bq+1+1,o,none⟩=false:=by intro o;simp [go_sem, *]
   have x3':∀o,w'.frozen? ⟨B7,o,none⟩=false:=by intro o;simp [go_sem, *]
   have hX5:Below w.heap.size w w':=bw
   clear hcell hfroz hb hz
   go_wp2_with (first|(go_at_call 315;(first|(with_reducible refine (hA1.out _).mono ?_)|(with_reducible refine (hA2'.out _).mono ?_));rintro e w' ⟨rfl,hb⟩;replace hb:=mU;obtain ⟨hcell,hfroz,hz,_⟩:=mB;(try have zz0:w.heap.size<w'.heap.size:=by omega);(try have zy0:w.heap.size<w'.heap.size+1:=by omega);(try have zz1:Bq<w'.heap.size:=by omega);(try have zy1:Bq<w'.heap.size+1:=by omega);(try have zz2:Bq+1<w'.heap.size:=by omega);(try have zy2:Bq+1<w'.heap.size+1:=by omega);(try have zz3:Bq+1+1<w'.heap.size:=by omega);(try have zy3:Bq+1+1<w'.heap.size+1:=by omega);(try have zz4:B7<w'.heap.size:=by omega);(try have zy4:B7<w'.heap.size+1:=by omega))|(go_at_call 343;(first|(with_reducible refine (hT1.out _).mono ?_)|(with_reducible refine (hT2.out _).mono ?_));rintro e w' ⟨rfl,hb⟩;replace hb:=mU;obtain ⟨hcell,hfroz,hz,_⟩:=mB;(try have zz0:w.heap.size<w'.heap.size:=by omega);(try have zy0:w.heap.size<w'.heap.size+1:=by omega);(try have zz1:Bq<w'.heap.size:=by omega);(try have zy1:Bq<w'.heap.size+1:=by omega);(try have zz2:Bq+1<w'.heap.size:=by omega);(try have zy2:Bq+1<w'.heap.size+1:=by omega);(try have zz3:Bq+1+1<w'.heap.size:=by omega);(try have zy3:Bq+1+1<w'.heap.size+1:=by omega);(try have zz4:B7<w'.heap.size:=by omega);(try have zy4:B7<w'.heap.size+1:=by omega))|(go_at_call 320;(first|(with_reducible refine (hO1.out _).mono ?_)|(with_reducible refine (hO2.out _).mono ?_));rintro e w' ⟨rfl,hb⟩;replace hb:=mU;obtain ⟨hcell,hfroz,hz,_⟩:=mB;(try have zz0:w.heap.size<w'.heap.size:=by omega);(try have zy0:w.heap.size<w'.heap.size+1:=by omega);(try have zz1:Bq<w'.heap.size:=by omega);(try have zy1:Bq<w'.heap.size+1:=by omega);(try have zz2:Bq+1<w'.heap.size:=by omega);(try have zy2:Bq+1<w'.heap.size+1:=by omega);(try have zz3:Bq+1+1<w'.heap.size:=by omega);(try have zy3:Bq+1+1<w'.heap.size+1:=by omega);(try have zz4:B7<w'.heap.size:=by omega);(try have zy4:B7<w'.heap.size+1:=by omega)))
   have HK2:=HK.out
   refine ⟨⟨i+1,_,4*((i+1:Nat):Int)+2,pa0,pa1,pa2,pa3,la0,la1,la2,la3,tc0,tc1,tc2,tc3,rfl,rfl,rfl,by omega,by omega,FP,FL,FT,?_,?_,?_,?_,?_,?_,?_,?_,?_,?_,?_,?_,?_,?_,?_,?_,?_,?_,?_,?_,b6 ?_,b6 ?_,b6 ?_,b6 ?_,bw⟩,by simp [intOf];omega⟩
   all_goals first|(simp [go_sem, *];done)|(intro o;simp [go_sem, *];done)
end Go.Proofs.YtdhbeoahpfimbaaGreat
