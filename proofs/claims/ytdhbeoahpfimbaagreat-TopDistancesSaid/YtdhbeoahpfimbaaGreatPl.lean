/- Part of the proof of TopDistances. -/
import Derived.Test.YtdhbeoahpfimbaaGreatRhS
import Derived.Test.YtdhbeoahpfimbaaGreatRa
namespace Go.Proofs.YtdhbeoahpfimbaaGreat
open Go.RowKit
set_option maxRecDepth 100000 in
set_option maxHeartbeats 40000000 in
theorem vH (A Q V:Int) (T SU:Nat->Int) (w:World) (A0:0<=A) (A1:A<x6) (hQ:A*A/x6=Q) (Q0:0<=Q) (Q1:Q<x6) (T0:T 0=A) (S0:SU 0=0)
  (TS:∀j,T (j+1)=T j*Q/x6) (SS:∀j:Nat,SU (j+1)=SU j+T j/(2*(j:Int)+1)) (TH:∀j,0<=T j/\T j<x6) (SH:∀j,0<=SU j/\SU j<2*x6) (TE:∀j,63<=j->T j=0) (HV:∀i,i<=64->T i=0->SU i=V):
  Calls Tryz.prog 321 #[H8 A] w fun e w'=>e= .returned (H8 V)/\Below w.heap.size w w':=by
 have hW:8*x6<o6/\0<x6:=by decide
 obtain ⟨a0,a1,a2,a3,HX⟩:=H0 A A0 (by omega)
 obtain ⟨q0,q1,q2,q3,HQ⟩:=H0 Q Q0 (by omega)
 have HT:CB 343 #[.agg #[.int .u64 a0,.int .u64 a1,.int .u64 a2,.int .u64 a3],.agg #[.int .u64 a0,.int .u64 a1,.int .u64 a2,.int .u64 a3]] (.agg #[.int .u64 q0,.int .u64 q1,.int .u64 q2,.int .u64 q3]):=b6 fun w=>by
  have h:=gR A A w A0 (by omega) A0 (by omega)
  rw [hQ,Int.emod_eq_of_lt Q0 (by omega),rwo HX,rwo HQ] at h;exact h
 have Z0:fY 0 0 0 0 0:=⟨mE,by unfold v7;omega,by unfold v7;omega,by unfold v7;omega,by unfold v7;omega,by unfold nv;omega⟩
 have SX:Hid (fY (T 0) a0 a1 a2 a3):=b6 (by rw [T0];exact HX)
 have ZH:Hid (fY (SU 0) 0 0 0 0):=b6 (by rw [S0];exact Z0)
 have HH:=b6 (And.intro hW (And.intro Q0 (And.intro Q1 (And.intro HQ (And.intro TS (And.intro SS (And.intro TH (And.intro SH (And.intro TE HV)))))))))
 rw [rwo HX]
 clear hW A0 A1 hQ Q0 Q1 T0 S0 TS SS TH SH TE HV HX HQ Z0
 go_enter Tryz.func321,Tryz.ntmps321
 go_wp2_with (first|(go_at_call 343;(with_reducible refine am (HT.out _) ?_);intro w' hb;replace hb:=mU;obtain ⟨hcell,hfroz,hz,_⟩:=mB;(try have zz0:w.heap.size<w'.heap.size:=by omega);(try have zy0:w.heap.size<w'.heap.size+1:=by omega);(try have zz1:w.heap.size+1<w'.heap.size:=by omega);(try have zy1:w.heap.size+1<w'.heap.size+1:=by omega);obtain ⟨w1,rfl⟩:=nm w'))
 refine m9 ?_
 intro w' hb
 replace hb:=mU;obtain ⟨hcell,hfroz,hz,_⟩:=mB
 have zA0:w.heap.size+1<w1.heap.size:=by omega
 have zA1:w.heap.size+1<w1.heap.size+1:=by omega
 have zA2:w.heap.size+1<w1.heap.size+1+1:=by omega
 have zA3:w.heap.size+1<w1.heap.size+1+1+1:=by omega
 have k0:=A7 w' w1.heap.size 0 q0
 have k1:=A7 w' w1.heap.size 1 q1
 have k2:=A7 w' w1.heap.size 2 q2
 have k3:=A7 w' w1.heap.size 3 q3
 have k4:=A7 w' (w1.heap.size+1) 0 0
 have k5:=A7 w' (w1.heap.size+1) 1 0
 have k6:=A7 w' (w1.heap.size+1) 2 0
 have k7:=A7 w' (w1.heap.size+1) 3 0
 have k8:=A7 w' (w1.heap.size+1+1) 0 a0
 have k9:=A7 w' (w1.heap.size+1+1) 1 a1
 have k10:=A7 w' (w1.heap.size+1+1) 2 a2
 have k11:=A7 w' (w1.heap.size+1+1) 3 a3
 have k12:=A7 w' (w.heap.size+1) 0 0
 have k13:=A7 w' (w.heap.size+1) 1 0
 have k14:=A7 w' (w.heap.size+1) 2 0
 have k15:=A7 w' (w.heap.size+1) 3 0
 have f0:∀o,w'.frozen? ⟨w.heap.size+1,o,none⟩=false:=by intro o;simp [go_sem, *]
 have f1:∀o,w'.frozen? ⟨w1.heap.size+1,o,none⟩=false:=by intro o;simp [go_sem, *]
 have f2:∀o,w'.frozen? ⟨w1.heap.size+1+1,o,none⟩=false:=by intro o;simp [go_sem, *]
 have hw0:Below w.heap.size w w':=bw
 clear hcell hfroz hz hb
 obtain ⟨V0,rfl⟩:=nm w'
 obtain ⟨Bq,hBq⟩:∃B,w1.heap.size=B:=⟨_,rfl⟩
 rw [hBq] at k0 k1 k2 k3 k4 k5 k6 k7 k8 k9 k10 k11 f1 f2 zA0 ⊢
 go_loopw [5,6] (fun s5 s6 wr=>∃(i B5:Nat) (k s0 s1 s2 s3 t0 t1 t2 t3:Int),s5= .pointer (some ⟨B5,0,none⟩)/\s6= .int .u64 k/\k=2*(i:Int)+1/\i<=64/\Bq+1<B5/\Hid (fY (SU i) s0 s1 s2 s3)/\Hid (fY (T i) t0 t1 t2 t3)/\wr.cell? ⟨Bq,0,none⟩=some (.int .u64 q0)/\wr.cell? ⟨Bq,1,none⟩=some (.int .u64 q1)/\wr.cell? ⟨Bq,2,none⟩=some (.int .u64 q2)/\wr.cell? ⟨Bq,3,none⟩=some (.int .u64 q3)/\wr.cell? ⟨Bq+1,0,none⟩=some (.int .u64 s0)/\wr.cell? ⟨Bq+1,1,none⟩=some (.int .u64 s1)/\wr.cell? ⟨Bq+1,2,none⟩=some (.int .u64 s2)/\wr.cell? ⟨Bq+1,3,none⟩=some (.int .u64 s3)/\wr.cell? ⟨B5,0,none⟩=some (.int .u64 t0)/\wr.cell? ⟨B5,1,none⟩=some (.int .u64 t1)/\wr.cell? ⟨B5,2,none⟩=some (.int .u64 t2)/\wr.cell? ⟨B5,3,none⟩=some (.int .u64 t3)/\wr.cell? ⟨w.heap.size+1,0,none⟩=some (.int .u64 0)/\wr.cell? ⟨w.heap.size+1,1,none⟩=some (.int .u64 0)/\wr.cell? ⟨w.heap.size+1,2,none⟩=some (.int .u64 0)/\wr.cell? ⟨w.heap.size+1,3,none⟩=some (.int .u64 0)/\Hid (∀o,wr.frozen? ⟨w.heap.size+1,o,none⟩=false)/\Hid (∀o,wr.frozen? ⟨Bq+1,o,none⟩=false)/\Hid (∀o,wr.frozen? ⟨B5,o,none⟩=false)/\Below w.heap.size w wr) (fun _ s6 _=>(1000-intOf s6).toNat)
 case atStart=>exact ⟨0,_,1,0,0,0,0,a0,a1,a2,a3,rfl,rfl,by omega,by omega,by omega,ZH,SX,k0,k1,k2,k3,k4,k5,k6,k7,k8,k9,k10,k11,k12,k13,k14,k15,b6 f0,b6 f1,b6 f2,hw0⟩
 case round=>
  obtain ⟨i,B5,k,s0,s1,s2,s3,t0,t1,t2,t3,rfl,rfl,hk,hi,hB5,hU,hT,j0,j1,j2,j3,j4,j5,j6,j7,j8,j9,j10,j11,j12,j13,j14,j15,g0,g1,g2,hY⟩:=hrel
  clear k0 k1 k2 k3 k4 k5 k6 k7 k8 k9 k10 k11 k12 k13 k14 k15 f0 f1 f2 hw0 zA0 zA1 zA2 zA3
  have u0:=g0.out
  have u1:=g1.out
  have u2:=g2.out
  have bt:B5<wr.heap.size:=World.block_lt_of_cell? _ _ j8
  have bp:Bq+1<wr.heap.size:=by omega
  have bq:Bq<wr.heap.size:=by omega
  have br:w.heap.size+1<wr.heap.size:=by omega
  have br0:w.heap.size<wr.heap.size:=by omega
  have n0:(B5=Bq)=False:=eq_false (by omega)
  have m0:(Bq=B5)=False:=eq_false (by omega)
  have n1:(B5=Bq+1)=False:=eq_false (by omega)
  have m1:(Bq+1=B5)=False:=eq_false (by omega)
  have n2:(B5=w.heap.size+1)=False:=eq_false (by omega)
  have m2:(w.heap.size+1=B5)=False:=eq_false (by omega)
  have n3:(Bq=w.heap.size+1)=False:=eq_false (by omega)
  have m3:(w.heap.size+1=Bq)=False:=eq_false (by omega)
  have n4:(Bq+1=w.heap.size+1)=False:=eq_false (by omega)
  have m4:(w.heap.size+1=Bq+1)=False:=eq_false (by omega)
  obtain ⟨hW,Q0,Q1,HQ,TS,SS,TH,SH,TE,HV⟩:=HH.out
  by_cases hz:T i=0
  ·have z:t0=0/\t1=0/\t2=0/\t3=0:=by
    have h:=hT.out
    have e:=h.2.2.2.2.2
    unfold fY v7 at h
    rw [hz] at e
    unfold nv at e
    omega
   obtain ⟨rfl,rfl,rfl,rfl⟩:=z
   have E:=b6 (show H8 V= .agg #[.int .u64 s0,.int .u64 s1,.int .u64 s2,.int .u64 s3] by rw [<-HV i hi hz];exact rwo hU.out)
   clear hW Q0 Q1 HQ TS SS TH SH TE HV hU hT hz
   have eqz:∀w,(Op.equalIn 10000 308 (.agg #[.int .u64 0,.int .u64 0,.int .u64 0,.int .u64 0]) (.agg #[.int .u64 0,.int .u64 0,.int .u64 0,.int .u64 0])).run Tryz.prog w= .ok true w:=fun w=>by rw [pG 9998];simp
   go_wp2
   exact bodyPost_ret (v:= .agg #[.int .u64 s0,.int .u64 s1,.int .u64 s2,.int .u64 s3]) (by first|(simp only [results,Tryz.results321];go_simp;done)|simp [results,Tryz.results321,go_sem, *]) rfl ⟨by rw [E.out],bw⟩
  ·have i62:i<=62:=by
    apply Classical.byContradiction
    intro g
    exact hz (TE i (by omega))
   have ta:=TH i
   have tb:=TH (i+1)
   have sa:=SH i
   have sb:=SH (i+1)
   have e1:=TS i
   have e2:=SS i
   have kw:IntKind.u64.wrap (k+2)=2*((i+1:Nat):Int)+1:=by rw [IntKind.wrap_u64];omega
   obtain ⟨A2,hA2⟩:∃x,T i=x:=⟨_,rfl⟩
   obtain ⟨B2,hB2⟩:∃x,T (i+1)=x:=⟨_,rfl⟩
   obtain ⟨S2,hS2⟩:∃x,SU i=x:=⟨_,rfl⟩
   obtain ⟨R2,hR2⟩:∃x,SU (i+1)=x:=⟨_,rfl⟩
   rw [hA2,hB2] at e1
   rw [hR2,hS2,hA2,<-hk] at e2
   rw [hA2] at ta hT hz
   rw [hB2] at tb
   rw [hS2] at sa hU
   rw [hR2] at sb
   have d0:0<=A2/k:=Int.ediv_nonneg ta.1 (by omega)
   have d1:A2/k<=A2:=Int.ediv_le_self _ ta.1
   obtain ⟨D2,hD2⟩:∃x,A2/k=x:=⟨_,rfl⟩
   have O1:=fun w=>aY A2 k w ta.1 (by omega) (by omega) (by omega)
   rw [hD2] at d0 d1 e2 O1
   obtain ⟨db0,db1,db2,db3,HD⟩:=H0 D2 d0 (by omega)
   obtain ⟨tb0,tb1,tb2,tb3,HB⟩:=H0 B2 tb.1 (by omega)
   obtain ⟨sb0,sb1,sb2,sb3,HS⟩:=H0 R2 sb.1 (by omega)
   have w1':(S2+D2)%o6=R2:=by rw [e2];exact Int.emod_eq_of_lt (by omega) (by omega)
   have w2':A2*Q/x6%o6=B2:=by rw [<-e1];exact Int.emod_eq_of_lt tb.1 (by omega)
   have bb:A2<o6/\Q<o6/\S2<o6/\D2<o6:=by omega
   have hO:CB 320 #[.agg #[.int .u64 t0,.int .u64 t1,.int .u64 t2,.int .u64 t3],.int .u64 k] (.agg #[.int .u64 db0,.int .u64 db1,.int .u64 db2,.int .u64 db3]):=b6 fun w=>by have h:=O1 w;rw [rwo hT.out,rwo HD] at h;exact h
   have hA:CB 315 #[.agg #[.int .u64 s0,.int .u64 s1,.int .u64 s2,.int .u64 s3],.agg #[.int .u64 db0,.int .u64 db1,.int .u64 db2,.int .u64 db3]] (.agg #[.int .u64 sb0,.int .u64 sb1,.int .u64 sb2,.int .u64 sb3]):=b6 fun w=>by have h:=aJ S2 D2 w sa.1 bb.2.2.1 d0 bb.2.2.2;rw [w1',rwo hU.out,rwo HD,rwo HS] at h;exact h
   have hM:CB 343 #[.agg #[.int .u64 t0,.int .u64 t1,.int .u64 t2,.int .u64 t3],.agg #[.int .u64 q0,.int .u64 q1,.int .u64 q2,.int .u64 q3]] (.agg #[.int .u64 tb0,.int .u64 tb1,.int .u64 tb2,.int .u64 tb3]):=b6 fun w=>by have h:=gR A2 Q w ta.1 bb.1 Q0 bb.2.1;rw [w2',rwo hT.out,rwo HQ,rwo HB] at h;exact h
   have nz:¬(t0=0/\t1=0/\t2=0/\t3=0):=by
    intro ⟨f0,f1,f2,f3⟩
    have e:=hT.out.2.2.2.2.2
    unfold nv at e
    omega
   have FSh:Hid (fY (SU (i+1)) sb0 sb1 sb2 sb3):=b6 (by rw [hR2];exact HS)
   have FT:Hid (fY (T (i+1)) tb0 tb1 tb2 tb3):=b6 (by rw [hB2];exact HB)
   have HK:=b6 hk
   clear ta tb sa sb e1 e2 hA2 hB2 hS2 hR2 d0 d1 hD2 O1 HD HB HS w1' w2' bb hW Q0 Q1 HQ TS SS TH SH TE HV hU hT hz
   have eqz:∀w,(Op.equalIn 10000 308 (.agg #[.int .u64 t0,.int .u64 t1,.int .u64 t2,.int .u64 t3]) (.agg #[.int .u64 0,.int .u64 0,.int .u64 0,.int .u64 0])).run Tryz.prog w= .ok false w:=fun w=>by rw [pG 9998];simp only [nz,decide_false]
   clear nz hk
   go_upto_region 6 with fail
   refine n9 5 (by kernel_rfl) (by kernel_rfl) ?_
   simp only [List.take_succ_cons,List.take_zero,List.drop_succ_cons,List.drop_zero]
   repeat (first|go_big_quiet_step ((first|(go_at_call 320;(with_reducible exact Calls.regrown_of (hO.out _)))|(go_at_call 315;(with_reducible exact Calls.regrown_of (hA.out _)))))|quiet_step ((first|(go_at_call 320;(with_reducible exact Calls.regrown_of (hO.out _)))|(go_at_call 315;(with_reducible exact Calls.regrown_of (hA.out _))))))
   refine wpQuiet_nil ?_;intro w' hw';have hb:=i8 hw';clear hw';replace hb:=mU;obtain ⟨hcell,hfroz,hz,_⟩:=mB
   have:w.heap.size<w'.heap.size:=by omega
   have:w.heap.size+1<w'.heap.size:=by omega
   have:Bq<w'.heap.size:=by omega
   have:Bq+1<w'.heap.size:=by omega
   have:B5<w'.heap.size:=by omega
   go_upto_region 7 with fail
   refine m9 ?_
   intro w' hb
   replace hb:=mU;obtain ⟨hcell,hfroz,hz,_⟩:=mB
   have:w.heap.size<w'.heap.size:=by omega
   have:w.heap.size+1<w'.heap.size:=by omega
   have:Bq<w'.heap.size:=by omega
   have:Bq+1<w'.heap.size:=by omega
   have:B5<w'.heap.size:=by omega
   have c0':w'.cell? ⟨Bq,0,none⟩=some (.int .u64 q0):=by simp [go_sem, *]
   have c1':w'.cell? ⟨Bq,1,none⟩=some (.int .u64 q1):=by simp [go_sem, *]
   have c2':w'.cell? ⟨Bq,2,none⟩=some (.int .u64 q2):=by simp [go_sem, *]
   have c3':w'.cell? ⟨Bq,3,none⟩=some (.int .u64 q3):=by simp [go_sem, *]
   have c4':w'.cell? ⟨Bq+1,0,none⟩=some (.int .u64 sb0):=by simp [go_sem, *]
   have c5':w'.cell? ⟨Bq+1,1,none⟩=some (.int .u64 sb1):=by simp [go_sem, *]
   have c6':w'.cell? ⟨Bq+1,2,none⟩=some (.int .u64 sb2):=by simp [go_sem, *]
   have c7':w'.cell? ⟨Bq+1,3,none⟩=some (.int .u64 sb3):=by simp [go_sem, *]
   have c8':w'.cell? ⟨B5,0,none⟩=some (.int .u64 t0):=by simp [go_sem, *]
   have c9':w'.cell? ⟨B5,1,none⟩=some (.int .u64 t1):=by simp [go_sem, *]
   have c10':w'.cell? ⟨B5,2,none⟩=some (.int .u64 t2):=by simp [go_sem, *]
   have c11':w'.cell? ⟨B5,3,none⟩=some (.int .u64 t3):=by simp [go_sem, *]
   have c12':w'.cell? ⟨w.heap.size+1,0,none⟩=some (.int .u64 0):=by simp [go_sem, *]
   have c13':w'.cell? ⟨w.heap.size+1,1,none⟩=some (.int .u64 0):=by simp [go_sem, *]
   have c14':w'.cell? ⟨w.heap.size+1,2,none⟩=some (.int .u64 0):=by simp [go_sem, *]
   have c15':w'.cell? ⟨w.heap.size+1,3,none⟩=some (.int .u64 0):=by simp [go_sem, *]
   have x0':∀o,w'.frozen? ⟨w.heap.size+1,o,none⟩=false:=by intro o;simp [go_sem, *]
   have x1':∀o,w'.frozen? ⟨Bq+1,o,none⟩=false:=by intro o;simp [go_sem, *]
   have x2':∀o,w'.frozen? ⟨B5,o,none⟩=false:=by intro o;simp [go_sem, *]
   have hX5:Below w.heap.size w w':=bw
   clear hcell hfroz hb hz
   go_wp2_with (first|(go_at_call 343;(with_reducible refine am (hM.out _) ?_);intro w' hb;replace hb:=mU;obtain ⟨hcell,hfroz,hz,_⟩:=mB;(try have zz0:w.heap.size<w'.heap.size:=by omega);(try have zy0:w.heap.size<w'.heap.size+1:=by omega);(try have zz1:w.heap.size+1<w'.heap.size:=by omega);(try have zy1:w.heap.size+1<w'.heap.size+1:=by omega);(try have zz2:Bq<w'.heap.size:=by omega);(try have zy2:Bq<w'.heap.size+1:=by omega);(try have zz3:Bq+1<w'.heap.size:=by omega);(try have zy3:Bq+1<w'.heap.size+1:=by omega);(try have zz4:B5<w'.heap.size:=by omega);(try have zy4:B5<w'.heap.size+1:=by omega)))
   have HK2:=HK.out
   refine ⟨⟨i+1,_,2*((i+1:Nat):Int)+1,sb0,sb1,sb2,sb3,tb0,tb1,tb2,tb3,rfl,rfl,rfl,by omega,by omega,FSh,FT,?_,?_,?_,?_,?_,?_,?_,?_,?_,?_,?_,?_,?_,?_,?_,?_,b6 ?_,b6 ?_,b6 ?_,bw⟩,by simp [intOf];omega⟩
   all_goals first|(simp [go_sem, *];done)|(intro o;simp [go_sem, *];done)
theorem a09:vN=x6:=by decide
theorem aF (z:Int) (z0:0<=z) (z1:3*z<=vN) (j:Nat):0<=aT z j/\9*aT z (j+1)<=aT z j/\aT z j<=z:=by
 have v:=aG
 have s0:0<=z*z/vN:=Int.ediv_nonneg (Int.mul_nonneg z0 z0) (by omega)
 have s1:9*(z*z/vN)<=vN:=by
  have a:z*z/vN*vN<=z*z:=Int.ediv_mul_le _ (by omega)
  have b:(3*z)*(3*z)<=vN*vN:=Int.mul_le_mul z1 z1 (by omega) (by omega)
  have c:9*(z*z/vN)*vN<=vN*vN:=by
   have e1:9*(z*z/vN)*vN=9*(z*z/vN*vN):=by grind
   have e2:3*z*(3*z)=9*(z*z):=by grind
   omega
  exact Int.le_of_mul_le_mul_right c (by omega)
 have st:∀j,0<=aT z j->0<=aT z (j+1)/\9*aT z (j+1)<=aT z j:=fun j h=>by
  show 0<=aT z j*(z*z/vN)/vN/\9*(aT z j*(z*z/vN)/vN)<=aT z j
  generalize z*z/vN=q at*
  generalize aT z j=t at*
  have p:=Int.mul_nonneg h s0
  have a:t*q/vN*vN<=t*q:=Int.ediv_mul_le _ (by omega)
  have b:=Int.mul_le_mul_of_nonneg_left s1 h
  refine ⟨Int.ediv_nonneg p (by omega),?_⟩
  have c:9*(t*q/vN)*vN<=t*vN:=by
   have e1:9*(t*q/vN)*vN=9*(t*q/vN*vN):=by grind
   have e2:t*(9*q)=9*(t*q):=by grind
   omega
  exact Int.le_of_mul_le_mul_right c (by omega)
 induction j with
 |zero=>exact ⟨z0,(st 0 z0).2,Int.le_refl _⟩
 |succ j ih=>have a:=st j ih.1;have b:=st (j+1) a.1;exact ⟨a.1,b.2,by omega⟩
theorem a1Y (z:Int) (z0:0<=z) (z1:3*z<=vN) (j:Nat):aT z j*9^j<=z:=by
 induction j with
 |zero=>show z*9^0<=z;omega
 |succ j ih=>
  have h:=(aF z z0 z1 j).2.1
  have:=Int.mul_le_mul_of_nonneg_right h (show (0:Int)<=9^j from Int.le_of_lt (Int.pow_pos (by decide)))
  rw [Int.pow_succ]
  have e:aT z (j+1)*(9^j*9)=9*aT z (j+1)*9^j:=by grind
  omega
theorem a2r (z:Int) (z0:0<=z) (z1:3*z<=vN) (j:Nat) (hj:63<=j):aT z j=0:=by
 have p:=a1Y z z0 z1 j
 have h:=(aF z z0 z1 j).1
 have n:vN<3*9^63:=by decide+kernel
 have m:(9:Int)^63<=9^j:=by
  obtain ⟨d,rfl⟩:∃d,j=63+d:=⟨j-63,by omega⟩
  rw [Int.pow_add]
  have:(1:Int)<=9^d:=Int.pow_pos (by decide)
  have:=Int.mul_le_mul_of_nonneg_left this (show (0:Int)<=9^63 by decide)
  omega
 generalize aT z j=t at*
 generalize (9:Int)^j=q at*
 apply Classical.byContradiction
 intro g
 have:=Int.mul_le_mul (show 1<=t by omega) m (by decide) h
 generalize (9:Int)^63=r at*
 omega
theorem XF (z:Int) (z0:0<=z) (z1:3*z<=vN) (j:Nat):0<=aS z j/\8*aS z j+9*aT z j<=9*z:=by
 induction j with
 |zero=>show 0<=0/\8*0+9*z<=9*z;omega
 |succ j ih=>
  have h:=aF z z0 z1 j
  have d0:0<=aT z j/(2*(j:Int)+1):=Int.ediv_nonneg h.1 (by omega)
  have d1:aT z j/(2*(j:Int)+1)<=aT z j:=Int.ediv_le_self _ h.1
  show 0<=aS z j+aT z j/(2*(j:Int)+1)/\8*(aS z j+aT z j/(2*(j:Int)+1))+9*aT z (j+1)<=9*z
  omega
theorem a1J (z:Int) (z0:0<=z) (z1:3*z<=vN) (i:Nat) (h:aT z i=0) (d:Nat):aT z (i+d)=0/\aS z (i+d)=aS z i:=by
 induction d with
 |zero=>exact ⟨h,rfl⟩
 |succ d ih=>
  have a:=aF z z0 z1 (i+d)
  have b:=aF z z0 z1 (i+d+1)
  refine ⟨?_,?_⟩
  ·rw [<-Nat.add_assoc];omega
  ·show aS z (i+d)+aT z (i+d)/(2*((i+d:Nat):Int)+1)=aS z i
   rw [ih.1,ih.2,Int.zero_ediv];omega
theorem nW (z:Int) (w:World) (z0:0<=z) (z1:3*z<=vN):Calls Tryz.prog 321 #[H8 z] w fun e w'=>e= .returned (H8 (aS z 64))/\Below w.heap.size w w':=by
 have v:=a09
 have vp:=aG
 have q0:0<=z*z/x6:=Int.ediv_nonneg (Int.mul_nonneg z0 z0) (by omega)
 have q1:z*z/x6<x6:=by
  apply Int.ediv_lt_of_lt_mul (by omega)
  have:=Int.mul_le_mul (show z<=x6-1 by omega) (show z<=x6 by omega) z0 (by omega)
  have e:(x6-1)*x6=x6*x6-x6:=by grind
  omega
 refine vH z (z*z/x6) (aS z 64) (aT z) (aS z) w z0 (by omega) rfl q0 q1 rfl rfl ?_ (fun j=>rfl) ?_ ?_ (fun j hj=>a2r z z0 z1 j hj) ?_
 ·intro j;rw [<-v];rfl
 ·intro j
  have:=aF z z0 z1 j
  omega
 ·intro j
  have:=XF z z0 z1 j
  have:=(aF z z0 z1 j).1
  omega
 ·intro i hi h
  have:=(a1J z z0 z1 i h (64-i)).2
  rw [show i+(64-i)=64 by omega] at this
  exact this.symm
open Go.RowKit Rot
theorem KL (n:Nat) (w:World) (hn:n<=4800002):Calls Tryz.prog 313 #[.int .i64 n] w fun e w'=>e= .returned (H8 (sI n))/\Below w.heap.size w w':=by
 have ab:=a0P n hn
 refine DJ n (N4 (O8 n) (jQ n) 1) (O8 n) (jQ n) (sI n) w hn rfl ab rfl rfl ?_ (yB _ _ ab.1 ab.2.2.1 ab.2.2.2) (ZP _ _ ab.1 ab.2.2.1 ab.2.2.2) (fun i hi h=>a2o n i hi h)
 intro j
 have e:(2*(j:Int)+1+(1:Nat))*(2*(j:Int)+2+(1:Nat))=(2*(j:Int)+2)*(2*(j:Int)+3):=by congr 1
 show N4 (O8 n) (jQ n) 1 j*jQ n/2^192/((2*(j:Int)+1+(1:Nat))*(2*(j:Int)+2+(1:Nat)))=_
 rw [e]
end Go.Proofs.YtdhbeoahpfimbaaGreat
