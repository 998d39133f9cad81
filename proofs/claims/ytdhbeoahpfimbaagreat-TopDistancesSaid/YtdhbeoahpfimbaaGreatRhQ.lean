/- Part of the proof of TopDistances. -/
import Derived.Test.YtdhbeoahpfimbaaGreatPk
namespace Go.Proofs.YtdhbeoahpfimbaaGreat
open Go.RowKit
def qR (X y:Int) (i:Nat):Int:=X/2^i%y
def qQ (X y:Int) (i:Nat):Int:=X/2^i/y%o6
theorem ZA (X y:Int) (i:Nat) (y0:0<y) (_X0:0<=X):qR X y i=(if 2*qR X y (i+1)+X/2^i%2<y then 2*qR X y (i+1)+X/2^i%2 else 2*qR X y (i+1)+X/2^i%2-y)/\
  qQ X y i=(2*qQ X y (i+1))%o6+(if 2*qR X y (i+1)+X/2^i%2<y then 0 else 1):=by
 have e:X/2^(i+1)=X/2^i/2:=by rw [Int.pow_succ,Int.ediv_ediv_of_nonneg (Int.le_of_lt (Int.pow_pos (by decide)))]
 unfold qR qQ
 rw [e]
 generalize X/2^i=T
 have t:T=2*(T/2)+T%2:=by omega
 generalize T/2=U at*
 have b:T%2=0\/T%2=1:=by omega
 generalize T%2=c at*
 subst t
 have u:=Int.emod_add_mul_ediv U y
 have r0:=Int.emod_nonneg U (show y≠0 by omega)
 have r1:=Int.emod_lt_of_pos U y0
 generalize U%y=r at*
 generalize U/y=q at*
 have ee:2*U+c=(2*r+c)+y*(2*q):=by rw [<-u];grind
 rw [ee,Int.add_mul_emod_self_left,Int.add_mul_ediv_left _ _ (show y≠0 by omega)]
 have hW:o6=115792089237316195423570985008687907853269984665640564039457584007913129639936:=by decide
 rw [hW]
 by_cases h:2*r+c<y
 ·rw [if_pos h,if_pos h,Int.emod_eq_of_lt (by omega) h,Int.ediv_eq_zero_of_lt (by omega) h]
  refine ⟨rfl,?_⟩
  clear r1 h u ee
  omega
 ·rw [if_neg h,if_neg h]
  have m:(2*r+c)%y=2*r+c-y:=by
   rw [<-Int.sub_emod_right (2*r+c) y,Int.emod_eq_of_lt (by omega) (by omega)]
  have d:(2*r+c)/y=1:=by
   have:=Int.emod_add_mul_ediv (2*r+c) y
   rw [m] at this
   have k:y*((2*r+c)/y)=y*1:=by omega
   exact Int.eq_of_mul_eq_mul_left (by omega) k
  rw [m,d]
  refine ⟨rfl,?_⟩
  clear m d r1 h u ee
  omega
theorem a0O (X y:Int) (X0:0<=X) (X1:X<2^448):qR X y 448=0/\qQ X y 448=0:=by
 unfold qR qQ
 rw [Int.ediv_eq_zero_of_lt X0 X1]
 simp
set_option maxRecDepth 100000 in
set_option maxHeartbeats 40000000 in
theorem nK (x y:Int) (w:World) (x0:0<=x) (x1:x<o6) (y0:0<y) (y1:y<=4*x6):
  Calls Tryz.prog 316 #[H8 x,H8 y] w fun e w'=>e= .returned (H8 (x*x6/y%o6))/\Below w.heap.size w w':=by
 have hW:4*x6<o6:=by decide
 obtain ⟨a0,a1,a2,a3,HX⟩:=H0 x x0 x1
 obtain ⟨b0,b1,b2,b3,HY⟩:=H0 y (by omega) (by omega)
 obtain ⟨X,hX⟩:∃X,x*x6=X:=⟨_,rfl⟩
 have X0:0<=X:=by rw [<-hX];exact Int.mul_nonneg x0 (by decide)
 have X1:X<2^448:=by
  have:x*x6<o6*x6:=Int.mul_lt_mul_of_pos_right x1 (by decide)
  rw [hX] at this
  exact Int.lt_of_lt_of_le this (by decide+kernel)
 have ST:=b6 (a0O X y X0 X1)
 have HH:=b6 (And.intro x0 (And.intro x1 (And.intro y0 (And.intro y1 (And.intro hX (And.intro X0 (And.intro HX HY)))))))
 rw [hX,HX.1,HY.1]
 clear hX X0 X1 x0 x1 y0 y1 HX HY hW
 go_enter Tryz.func316,Tryz.ntmps316
 go_wp2
 refine m9 ?_
 intro w' hb
 replace hb:=mU;obtain ⟨hcell,hfroz,hz,_⟩:=mB
 have hw0:Below w.heap.size w w':=bv
 have p0:=A7 w' w.heap.size 0 a0
 have p1:=A7 w' w.heap.size 1 a1
 have p2:=A7 w' w.heap.size 2 a2
 have p3:=A7 w' w.heap.size 3 a3
 have e0:=A7 w' (w.heap.size+1) 0 b0
 have e1:=A7 w' (w.heap.size+1) 1 b1
 have e2:=A7 w' (w.heap.size+1) 2 b2
 have e3:=A7 w' (w.heap.size+1) 3 b3
 have q0:=A7 w' (w.heap.size+1+1) 0 0
 have q1:=A7 w' (w.heap.size+1+1) 1 0
 have q2:=A7 w' (w.heap.size+1+1) 2 0
 have q3:=A7 w' (w.heap.size+1+1) 3 0
 have c0:=A7 w' (w.heap.size+1+1+1) 0 0
 have c1:=A7 w' (w.heap.size+1+1+1) 1 0
 have c2:=A7 w' (w.heap.size+1+1+1) 2 0
 have c3:=A7 w' (w.heap.size+1+1+1) 3 0
 have d0:=A7 w' (w.heap.size+1+1+1+1) 0 0
 have d1:=A7 w' (w.heap.size+1+1+1+1) 1 0
 have d2:=A7 w' (w.heap.size+1+1+1+1) 2 0
 have d3:=A7 w' (w.heap.size+1+1+1+1) 3 0
 have f1:∀o,w'.frozen? ⟨w.heap.size+1+1,o,none⟩=false:=by intro o;simp [go_sem, *]
 have f2:∀o,w'.frozen? ⟨w.heap.size+1+1+1,o,none⟩=false:=by intro o;simp [go_sem, *]
 have f3:∀o,w'.frozen? ⟨w.heap.size+1+1+1+1,o,none⟩=false:=by intro o;simp [go_sem, *]
 clear hcell hfroz hz hb
 obtain ⟨V0,rfl⟩:=nm w'
 have z5:fY 0 0 0 0 0:=⟨mE,by unfold v7;omega,by unfold v7;omega,by unfold v7;omega,by unfold v7;omega,by unfold nv;omega⟩
 go_loopw [7] (fun iv wr=>∃(n:Int) (r0 r1 r2 r3 c0 c1 c2 c3:Int),iv= .int .i64 n/\ -1<=n/\n<=447/\Hid (fY (qR X y (n+1).toNat) r0 r1 r2 r3)/\Hid (fY (qQ X y (n+1).toNat) c0 c1 c2 c3)/\wr.cell? ⟨w.heap.size,0,none⟩=some (.int .u64 a0)/\wr.cell? ⟨w.heap.size,1,none⟩=some (.int .u64 a1)/\wr.cell? ⟨w.heap.size,2,none⟩=some (.int .u64 a2)/\wr.cell? ⟨w.heap.size,3,none⟩=some (.int .u64 a3)/\wr.cell? ⟨w.heap.size+1,0,none⟩=some (.int .u64 b0)/\wr.cell? ⟨w.heap.size+1,1,none⟩=some (.int .u64 b1)/\wr.cell? ⟨w.heap.size+1,2,none⟩=some (.int .u64 b2)/\wr.cell? ⟨w.heap.size+1,3,none⟩=some (.int .u64 b3)/\wr.cell? ⟨w.heap.size+1+1,0,none⟩=some (.int .u64 0)/\wr.cell? ⟨w.heap.size+1+1,1,none⟩=some (.int .u64 0)/\wr.cell? ⟨w.heap.size+1+1,2,none⟩=some (.int .u64 0)/\wr.cell? ⟨w.heap.size+1+1,3,none⟩=some (.int .u64 0)/\wr.cell? ⟨w.heap.size+1+1+1,0,none⟩=some (.int .u64 c0)/\wr.cell? ⟨w.heap.size+1+1+1,1,none⟩=some (.int .u64 c1)/\wr.cell? ⟨w.heap.size+1+1+1,2,none⟩=some (.int .u64 c2)/\wr.cell? ⟨w.heap.size+1+1+1,3,none⟩=some (.int .u64 c3)/\wr.cell? ⟨w.heap.size+1+1+1+1,0,none⟩=some (.int .u64 r0)/\wr.cell? ⟨w.heap.size+1+1+1+1,1,none⟩=some (.int .u64 r1)/\wr.cell? ⟨w.heap.size+1+1+1+1,2,none⟩=some (.int .u64 r2)/\wr.cell? ⟨w.heap.size+1+1+1+1,3,none⟩=some (.int .u64 r3)/\Hid (∀o,wr.frozen? ⟨w.heap.size+1+1,o,none⟩=false)/\Hid (∀o,wr.frozen? ⟨w.heap.size+1+1+1,o,none⟩=false)/\Hid (∀o,wr.frozen? ⟨w.heap.size+1+1+1+1,o,none⟩=false)/\Below w.heap.size w wr) (fun iv _=>(intOf iv+1).toNat)
 case atStart=>
  have s0:=ST.out
  exact ⟨447,0,0,0,0,0,0,0,0,rfl,by omega,by omega,b6 (by show fY (qR X y 448) 0 0 0 0;rw [s0.1];exact z5),b6 (by show fY (qQ X y 448) 0 0 0 0;rw [s0.2];exact z5),p0,p1,p2,p3,e0,e1,e2,e3,q0,q1,q2,q3,c0,c1,c2,c3,d0,d1,d2,d3,b6 f1,b6 f2,b6 f3,hw0⟩
 case round=>
  obtain ⟨n,r0,r1,r2,r3,c0',c1',c2',c3',rfl,n0,n1,hR,hQ,p0',p1',p2',p3',e0',e1',e2',e3',q0',q1',q2',q3',c0,c1,c2,c3,d0,d1,d2,d3,g1,g2,g3,hY⟩:=hrel
  clear p0 p1 p2 p3 e0 e1 e2 e3 q0 q1 q2 q3 f1 f2 f3 z5 hw0
  have u1:=g1.out
  have u2:=g2.out
  have u3:=g3.out
  have hR4:w.heap.size+1+1+1+1<wr.heap.size:=World.block_lt_of_cell? _ _ d0
  have hR3:w.heap.size+1+1+1<wr.heap.size:=by omega
  have hR2:w.heap.size+1+1<wr.heap.size:=by omega
  have hR1:w.heap.size+1<wr.heap.size:=by omega
  have hR0:w.heap.size<wr.heap.size:=by omega
  by_cases hn:n<0
  ·have en:n= -1:=by omega
   subst en
   have e:H8 (X/y%o6)= .agg #[.int .u64 c0',.int .u64 c1',.int .u64 c2',.int .u64 c3']:=by
    have e:=hQ.out.1
    unfold qQ at e
    simpa using e
   have E:=b6 e
   clear hR hQ e
   go_wp2
   exact bodyPost_ret (v:= .agg #[.int .u64 c0',.int .u64 c1',.int .u64 c2',.int .u64 c3']) (by first|(simp only [results,Tryz.results316];go_simp;done)|simp [results,Tryz.results316,go_sem, *]) rfl ⟨by rw [E.out],bw⟩
  ·obtain ⟨m,rfl⟩:∃m:Nat,n=m:=⟨n.toNat,by omega⟩
   obtain ⟨x0,x1,y0,y1,hX,X0,HX,HY⟩:=HH.out
   have em:((m:Int)+1).toNat=m+1:=by omega
   rw [em] at hR hQ
   obtain ⟨R,hRd⟩:∃R,qR X y (m+1)=R:=⟨_,rfl⟩
   obtain ⟨C,hCd⟩:∃C,qQ X y (m+1)=C:=⟨_,rfl⟩
   have R0:0<=R/\R<y:=by rw [<-hRd];exact ⟨Int.emod_nonneg _ (by omega),Int.emod_lt_of_pos _ y0⟩
   have W4:4*x6<o6/\8*x6<o6/\0<x6:=by decide
   have C0:0<=C/\C<o6:=by rw [<-hCd];exact ⟨Int.emod_nonneg _ (by omega),Int.emod_lt_of_pos _ (by omega)⟩
   rw [hRd] at hR
   rw [hCd] at hQ
   have T0:=fun w=>kA R w R0.1 (by omega)
   rw [Int.emod_eq_of_lt (show 0<=R+R by omega) (by omega)] at T0
   obtain ⟨t0,t1,t2,t3,HT⟩:=H0 (R+R) (by omega) (by omega)
   have hT:CB 323 #[.agg #[.int .u64 r0,.int .u64 r1,.int .u64 r2,.int .u64 r3]] (.agg #[.int .u64 t0,.int .u64 t1,.int .u64 t2,.int .u64 t3]):=b6 fun w=>by have h:=T0 w;rw [rwo hR.out,rwo HT] at h;exact h
   clear T0
   obtain ⟨β,hβ⟩:∃β,X/2^m%2=β:=⟨_,rfl⟩
   have hβ0:β=0\/β=1:=by
    generalize X/2^m=T at hβ
    omega
   have hway:((m:Int)<192/\β=0)\/(¬(m:Int)<192/\∃aL,wr.cell? ⟨w.heap.size,(m-192)/64,none⟩=some (.int .u64 aL)/\(bits BinOp.and IntKind.u64 (aL/2^((m-192)%64)) 1==1)=decide (β=1)):=by
    have b:=WK x X a0 a1 a2 a3 m (by omega) hX HX.2.2.2.2.2 HX.2.1 HX.2.2.1 HX.2.2.2.1 HX.2.2.2.2.1
    rw [hβ] at b
    rcases b with b|b
    ·exact .inl b
    ·refine .inr ⟨b.1,_,?_,b.2⟩
     have c:(m-192)/64=0\/(m-192)/64=1\/(m-192)/64=2\/(m-192)/64=3:=by omega
     rcases c with c|c|c|c<;>rw [c]
     ·exact p0'
     ·exact p1'
     ·exact p2'
     ·exact p3'
   obtain ⟨s0,hs0⟩:∃s0,t0+β=s0:=⟨_,rfl⟩
   have te:t0%2=0:=by
    have e:=HT.2.2.2.2.2
    unfold nv at e
    omega
   have tw:=HT.2.1
   have hor1:bits BinOp.or IntKind.u64 t0 1=t0+1:=RN t0 tw.1 tw.2 te
   have HS:fY (2*R+β) s0 t1 t2 t3:=TF (by unfold v7 at*;omega) HT.2.2.1 HT.2.2.2.1 HT.2.2.2.2.1 (by
    have e:=HT.2.2.2.2.2
    unfold nv at*
    omega)
   obtain ⟨v0,v1,v2,v3,HV⟩:=H0 ((C+C)%o6) (Int.emod_nonneg _ (by omega)) (Int.emod_lt_of_pos _ (by omega))
   have ve:v0%2=0:=by
    have e:=HV.2.2.2.2.2
    have hW:o6=115792089237316195423570985008687907853269984665640564039457584007913129639936:=by decide
    rw [hW] at e
    unfold nv at e
    clear hway hβ HS te hor1 hs0
    omega
   have vw:=HV.2.1
   have hor2:bits BinOp.or IntKind.u64 v0 1=v0+1:=RN v0 vw.1 vw.2 ve
   have HV1:fY ((C+C)%o6+1) (v0+1) v1 v2 v3:=TF (by unfold v7 at*;omega) HV.2.2.1 HV.2.2.2.1 HV.2.2.2.2.1 (by
    have e:=HV.2.2.2.2.2
    rw [e]
    unfold nv
    omega)
   have hC:CB 323 #[.agg #[.int .u64 c0',.int .u64 c1',.int .u64 c2',.int .u64 c3']] (.agg #[.int .u64 v0,.int .u64 v1,.int .u64 v2,.int .u64 v3]):=b6 fun w=>by have h:=kA C w C0.1 C0.2;rw [rwo hQ.out,rwo HV] at h;exact h
   have hLs:CB 319 #[.agg #[.int .u64 s0,.int .u64 t1,.int .u64 t2,.int .u64 t3],.agg #[.int .u64 b0,.int .u64 b1,.int .u64 b2,.int .u64 b3]] (.bool (decide (2*R+β<y))):=b6 fun w=>by have h:=mW (2*R+β) y w (by omega) (by omega) (by omega) (by omega);rw [rwo HS,rwo HY] at h;exact h
   obtain ⟨m0,m1,m2,m3,HM⟩:=H0 ((2*R+β-y)%o6) (Int.emod_nonneg _ (by omega)) (Int.emod_lt_of_pos _ (by omega))
   have hM:CB 317 #[.agg #[.int .u64 s0,.int .u64 t1,.int .u64 t2,.int .u64 t3],.agg #[.int .u64 b0,.int .u64 b1,.int .u64 b2,.int .u64 b3]] (.agg #[.int .u64 m0,.int .u64 m1,.int .u64 m2,.int .u64 m3]):=b6 fun w=>by have h:=dZ (2*R+β) y w (by omega) (by omega) (by omega) (by omega);rw [rwo HS,rwo HY,rwo HM] at h;exact h
   have rnd:=ZA X y m y0 X0
   rw [hRd,hCd,hβ] at rnd
   have HM2:¬2*R+β<y->fY (qR X y m) m0 m1 m2 m3:=fun h=>by rw [if_neg h,if_neg h] at rnd;rw [Int.emod_eq_of_lt (by omega) (by omega)] at HM;rw [rnd.1];exact HM
   have HS2:2*R+β<y->fY (qR X y m) s0 t1 t2 t3:=fun h=>by rw [if_pos h,if_pos h] at rnd;rw [rnd.1];exact HS
   have HV2:¬2*R+β<y->fY (qQ X y m) (v0+1) v1 v2 v3:=fun h=>by rw [if_neg h,if_neg h] at rnd;rw [rnd.2,Int.two_mul];exact HV1
   have HV3:2*R+β<y->fY (qQ X y m) v0 v1 v2 v3:=fun h=>by rw [if_pos h,if_pos h] at rnd;rw [rnd.2,Int.two_mul,Int.add_zero];exact HV
   have em2:((m:Int)-1+1).toNat=m:=by omega
   obtain ⟨ll,hll⟩:∃ll,decide (2*R+β<y)=ll:=⟨_,rfl⟩
   rw [hll] at hLs
   have FA:Hid (fY (qR X y m) (if ll then s0 else m0) (if ll then t1 else m1) (if ll then t2 else m2) (if ll then t3 else m3)/\fY (qQ X y m) (if ll then v0 else v0+1) v1 v2 v3):=by
    cases ll
    ·exact b6 ⟨HM2 (of_decide_eq_false hll),HV2 (of_decide_eq_false hll)⟩
    ·exact b6 ⟨HS2 (of_decide_eq_true hll),HV3 (of_decide_eq_true hll)⟩
   clear hll tw vw ve HM2 HS2 HV2 HV3 HM HV HV1 HS rnd x0 x1 y0 y1 hX X0 HX HY hRd hCd R0 W4 C0 HT em hR hQ te hβ
   obtain ⟨bb,hbb⟩:∃bb,decide (β=1)=bb:=⟨_,rfl⟩
   have hs1:s0=if bb then t0+1 else t0:=by
    rw [<-hs0]
    cases bb
    ·have:=of_decide_eq_false hbb;rw [if_neg (by simp)];omega
    ·have:=of_decide_eq_true hbb;rw [if_pos rfl];omega
   have hway2:((m:Int)<192/\bb=false)\/(¬(m:Int)<192/\∃aL,wr.cell? ⟨w.heap.size,(m-192)/64,none⟩=some (.int .u64 aL)/\(bits BinOp.and IntKind.u64 (aL/2^((m-192)%64)) 1==1)=bb):=by
    rcases hway with ⟨h,hb0⟩|⟨h,aL,h1,h2⟩
    ·exact .inl ⟨h,by rw [<-hbb,hb0];rfl⟩
    ·exact .inr ⟨h,aL,h1,by rw [h2,hbb]⟩
   clear hway hbb hs0 hβ0
   go_upto_region 6 with (go_at_call 323;(with_reducible refine am (hT.out _) ?_);intro w' hb;replace hb:=mU;obtain ⟨hcell,hfroz,hz,_⟩:=mB;(try have y3:w.heap.size+1+1+1<w'.heap.size:=by omega);(try have y4:w.heap.size+1+1+1+1<w'.heap.size:=by omega))
   refine m9 ?_
   intro w' hb
   replace hb:=mU;obtain ⟨hcell,hfroz,hz,_⟩:=mB
   have y3:w.heap.size+1+1+1<w'.heap.size:=by omega
   have y4:w.heap.size+1+1+1+1<w'.heap.size:=by omega
   have k0:=A7 w' w.heap.size 0 a0
   have k1:=A7 w' w.heap.size 1 a1
   have k2:=A7 w' w.heap.size 2 a2
   have k3:=A7 w' w.heap.size 3 a3
   have k4:=A7 w' (w.heap.size+1) 0 b0
   have k5:=A7 w' (w.heap.size+1) 1 b1
   have k6:=A7 w' (w.heap.size+1) 2 b2
   have k7:=A7 w' (w.heap.size+1) 3 b3
   have k8:=A7 w' (w.heap.size+1+1) 0 0
   have k9:=A7 w' (w.heap.size+1+1) 1 0
   have k10:=A7 w' (w.heap.size+1+1) 2 0
   have k11:=A7 w' (w.heap.size+1+1) 3 0
   have k12:=A7 w' (w.heap.size+1+1+1) 0 c0'
   have k13:=A7 w' (w.heap.size+1+1+1) 1 c1'
   have k14:=A7 w' (w.heap.size+1+1+1) 2 c2'
   have k15:=A7 w' (w.heap.size+1+1+1) 3 c3'
   have k16:=A7 w' (w.heap.size+1+1+1+1) 0 t0
   have k17:=A7 w' (w.heap.size+1+1+1+1) 1 t1
   have k18:=A7 w' (w.heap.size+1+1+1+1) 2 t2
   have k19:=A7 w' (w.heap.size+1+1+1+1) 3 t3
   have j1:∀o,w'.frozen? ⟨w.heap.size+1+1,o,none⟩=false:=by intro o;simp [go_sem, *]
   have j2:∀o,w'.frozen? ⟨w.heap.size+1+1+1,o,none⟩=false:=by intro o;simp [go_sem, *]
   have j3:∀o,w'.frozen? ⟨w.heap.size+1+1+1+1,o,none⟩=false:=by intro o;simp [go_sem, *]
   have hb':Below w.heap.size w w':=bw
   have hlimb:(m:Int)<192\/∃aL,w'.cell? ⟨w.heap.size,(m-192)/64,none⟩=some (.int .u64 aL)/\(bits BinOp.and IntKind.u64 (aL/2^((m-192)%64)) 1==1)=bb:=by
    rcases hway2 with ⟨h,_⟩|⟨h,aL,h1,h2⟩
    ·exact .inl h
    ·exact .inr ⟨aL,by simp [go_sem, *],h2⟩
   have hlow:(m:Int)<192->bb=false:=by
    intro h
    rcases hway2 with ⟨_,h2⟩|⟨h2,_⟩
    ·exact h2
    ·omega
   clear hway2 hcell hfroz hb hz
   obtain ⟨V5,rfl⟩:=nm w'
   go_cut [28] from 14 to 29 (fun s28 wx=>s28= .bool bb/\wx=V5)
   case first=>
    rcases hlimb with h|⟨aL,h1,h2⟩
    ·have hb2:=hlow h
     go_wp2
     all_goals go_meet
     all_goals exact ⟨by rw [hb2],rfl⟩
    ·by_cases h:(m:Int)<192
     ·have hb2:=hlow h
      go_wp2
      all_goals go_meet
      all_goals exact ⟨by rw [hb2],rfl⟩
     ·go_wp2
      all_goals go_meet
      all_goals exact ⟨rfl,rfl⟩
   case rest=>
    obtain ⟨rfl,rfl⟩:=hcut
    clear hlimb hlow
    cases bb
    ·rw [if_neg (by simp)] at hs1
     have hs2:=hs1.symm
     subst hs2
     clear hor1
     cases ll
     ·go_wp2_with ((first|(go_at_call 323;(with_reducible refine am (hC.out _) ?_);intro w' hb)|(go_at_call 319;(with_reducible refine am (hLs.out _) ?_);intro w' hb)|(go_at_call 317;(with_reducible refine am (hM.out _) ?_);intro w' hb));replace hb:=mU;obtain ⟨hcell,hfroz,hz,_⟩:=mB;(try have y3:w.heap.size+1+1+1<w'.heap.size:=by omega);(try have y4:w.heap.size+1+1+1+1<w'.heap.size:=by omega))
      have k100:=A7 w' w.heap.size 0 a0
      have k101:=A7 w' w.heap.size 1 a1
      have k102:=A7 w' w.heap.size 2 a2
      have k103:=A7 w' w.heap.size 3 a3
      have k104:=A7 w' (w.heap.size+1) 0 b0
      have k105:=A7 w' (w.heap.size+1) 1 b1
      have k106:=A7 w' (w.heap.size+1) 2 b2
      have k107:=A7 w' (w.heap.size+1) 3 b3
      have k108:=A7 w' (w.heap.size+1+1) 0 0
      have k109:=A7 w' (w.heap.size+1+1) 1 0
      have k110:=A7 w' (w.heap.size+1+1) 2 0
      have k111:=A7 w' (w.heap.size+1+1) 3 0
      have k112:=A7 w' (w.heap.size+1+1+1) 0 v0
      have k113:=A7 w' (w.heap.size+1+1+1) 1 v1
      have k114:=A7 w' (w.heap.size+1+1+1) 2 v2
      have k115:=A7 w' (w.heap.size+1+1+1) 3 v3
      have k116:=A7 w' (w.heap.size+1+1+1+1) 0 t0
      have k117:=A7 w' (w.heap.size+1+1+1+1) 1 t1
      have k118:=A7 w' (w.heap.size+1+1+1+1) 2 t2
      have k119:=A7 w' (w.heap.size+1+1+1+1) 3 t3
      have i1:∀o,w'.frozen? ⟨w.heap.size+1+1,o,none⟩=false:=by intro o;simp [go_sem, *]
      have i2:∀o,w'.frozen? ⟨w.heap.size+1+1+1,o,none⟩=false:=by intro o;simp [go_sem, *]
      have i3:∀o,w'.frozen? ⟨w.heap.size+1+1+1+1,o,none⟩=false:=by intro o;simp [go_sem, *]
      have hX':Below w.heap.size w w':=bw
      clear hcell hfroz hb
      refine ⟨⟨(m:Int)-1,m0,m1,m2,m3,v0+1,v1,v2,v3,rfl,by omega,by omega,b6 (by rw [em2];exact FA.out.1),b6 (by rw [em2];exact FA.out.2),?_,?_,?_,?_,?_,?_,?_,?_,?_,?_,?_,?_,?_,?_,?_,?_,?_,?_,?_,?_,b6 ?_,b6 ?_,b6 ?_,bw⟩,by simp [intOf]⟩
      all_goals first|(simp [go_sem, *];done)|(intro o;simp [go_sem, *];done)
     ·go_wp2_with ((first|(go_at_call 323;(with_reducible refine am (hC.out _) ?_);intro w' hb)|(go_at_call 319;(with_reducible refine am (hLs.out _) ?_);intro w' hb)|(go_at_call 317;(with_reducible refine am (hM.out _) ?_);intro w' hb));replace hb:=mU;obtain ⟨hcell,hfroz,hz,_⟩:=mB;(try have y3:w.heap.size+1+1+1<w'.heap.size:=by omega);(try have y4:w.heap.size+1+1+1+1<w'.heap.size:=by omega))
      refine ⟨⟨(m:Int)-1,t0,t1,t2,t3,v0,v1,v2,v3,rfl,by omega,by omega,b6 (by rw [em2];exact FA.out.1),b6 (by rw [em2];exact FA.out.2),?_,?_,?_,?_,?_,?_,?_,?_,?_,?_,?_,?_,?_,?_,?_,?_,?_,?_,?_,?_,b6 ?_,b6 ?_,b6 ?_,bw⟩,by simp [intOf]⟩
      all_goals first|(simp [go_sem, *];done)|(intro o;simp [go_sem, *];done)
    ·rw [if_pos rfl] at hs1
     rw [<-hs1] at hor1
     clear hs1
     go_upto_region 8 with fail
     refine m9 ?_
     intro w' hb
     replace hb:=mU;obtain ⟨hcell,hfroz,hz,_⟩:=mB
     have y3:w.heap.size+1+1+1<w'.heap.size:=by omega
     have y4:w.heap.size+1+1+1+1<w'.heap.size:=by omega
     have k200:=A7 w' w.heap.size 0 a0
     have k201:=A7 w' w.heap.size 1 a1
     have k202:=A7 w' w.heap.size 2 a2
     have k203:=A7 w' w.heap.size 3 a3
     have k204:=A7 w' (w.heap.size+1) 0 b0
     have k205:=A7 w' (w.heap.size+1) 1 b1
     have k206:=A7 w' (w.heap.size+1) 2 b2
     have k207:=A7 w' (w.heap.size+1) 3 b3
     have k208:=A7 w' (w.heap.size+1+1) 0 0
     have k209:=A7 w' (w.heap.size+1+1) 1 0
     have k210:=A7 w' (w.heap.size+1+1) 2 0
     have k211:=A7 w' (w.heap.size+1+1) 3 0
     have k212:=A7 w' (w.heap.size+1+1+1) 0 c0'
     have k213:=A7 w' (w.heap.size+1+1+1) 1 c1'
     have k214:=A7 w' (w.heap.size+1+1+1) 2 c2'
     have k215:=A7 w' (w.heap.size+1+1+1) 3 c3'
     have k216:=A7 w' (w.heap.size+1+1+1+1) 0 s0
     have k217:=A7 w' (w.heap.size+1+1+1+1) 1 t1
     have k218:=A7 w' (w.heap.size+1+1+1+1) 2 t2
     have k219:=A7 w' (w.heap.size+1+1+1+1) 3 t3
     have i1:∀o,w'.frozen? ⟨w.heap.size+1+1,o,none⟩=false:=by intro o;simp [go_sem, *]
     have i2:∀o,w'.frozen? ⟨w.heap.size+1+1+1,o,none⟩=false:=by intro o;simp [go_sem, *]
     have i3:∀o,w'.frozen? ⟨w.heap.size+1+1+1+1,o,none⟩=false:=by intro o;simp [go_sem, *]
     have hX5:Below w.heap.size w w':=bw
     clear hcell hfroz hb hz
     cases ll
     ·go_wp2_with ((first|(go_at_call 323;(with_reducible refine am (hC.out _) ?_);intro w' hb)|(go_at_call 319;(with_reducible refine am (hLs.out _) ?_);intro w' hb)|(go_at_call 317;(with_reducible refine am (hM.out _) ?_);intro w' hb));replace hb:=mU;obtain ⟨hcell,hfroz,hz,_⟩:=mB;(try have y3:w.heap.size+1+1+1<w'.heap.size:=by omega);(try have y4:w.heap.size+1+1+1+1<w'.heap.size:=by omega))
      have k100:=A7 w' w.heap.size 0 a0
      have k101:=A7 w' w.heap.size 1 a1
      have k102:=A7 w' w.heap.size 2 a2
      have k103:=A7 w' w.heap.size 3 a3
      have k104:=A7 w' (w.heap.size+1) 0 b0
      have k105:=A7 w' (w.heap.size+1) 1 b1
      have k106:=A7 w' (w.heap.size+1) 2 b2
      have k107:=A7 w' (w.heap.size+1) 3 b3
      have k108:=A7 w' (w.heap.size+1+1) 0 0
      have k109:=A7 w' (w.heap.size+1+1) 1 0
      have k110:=A7 w' (w.heap.size+1+1) 2 0
      have k111:=A7 w' (w.heap.size+1+1) 3 0
      have k112:=A7 w' (w.heap.size+1+1+1) 0 v0
      have k113:=A7 w' (w.heap.size+1+1+1) 1 v1
      have k114:=A7 w' (w.heap.size+1+1+1) 2 v2
      have k115:=A7 w' (w.heap.size+1+1+1) 3 v3
      have k116:=A7 w' (w.heap.size+1+1+1+1) 0 s0
      have k117:=A7 w' (w.heap.size+1+1+1+1) 1 t1
      have k118:=A7 w' (w.heap.size+1+1+1+1) 2 t2
      have k119:=A7 w' (w.heap.size+1+1+1+1) 3 t3
      have i1:∀o,w'.frozen? ⟨w.heap.size+1+1,o,none⟩=false:=by intro o;simp [go_sem, *]
      have i2:∀o,w'.frozen? ⟨w.heap.size+1+1+1,o,none⟩=false:=by intro o;simp [go_sem, *]
      have i3:∀o,w'.frozen? ⟨w.heap.size+1+1+1+1,o,none⟩=false:=by intro o;simp [go_sem, *]
      have hX':Below w.heap.size w w':=bw
      clear hcell hfroz hb
      refine ⟨⟨(m:Int)-1,m0,m1,m2,m3,v0+1,v1,v2,v3,rfl,by omega,by omega,b6 (by rw [em2];exact FA.out.1),b6 (by rw [em2];exact FA.out.2),?_,?_,?_,?_,?_,?_,?_,?_,?_,?_,?_,?_,?_,?_,?_,?_,?_,?_,?_,?_,b6 ?_,b6 ?_,b6 ?_,bw⟩,by simp [intOf]⟩
      all_goals first|(simp [go_sem, *];done)|(intro o;simp [go_sem, *];done)
     ·go_wp2_with ((first|(go_at_call 323;(with_reducible refine am (hC.out _) ?_);intro w' hb)|(go_at_call 319;(with_reducible refine am (hLs.out _) ?_);intro w' hb)|(go_at_call 317;(with_reducible refine am (hM.out _) ?_);intro w' hb));replace hb:=mU;obtain ⟨hcell,hfroz,hz,_⟩:=mB;(try have y3:w.heap.size+1+1+1<w'.heap.size:=by omega);(try have y4:w.heap.size+1+1+1+1<w'.heap.size:=by omega))
      refine ⟨⟨(m:Int)-1,s0,t1,t2,t3,v0,v1,v2,v3,rfl,by omega,by omega,b6 (by rw [em2];exact FA.out.1),b6 (by rw [em2];exact FA.out.2),?_,?_,?_,?_,?_,?_,?_,?_,?_,?_,?_,?_,?_,?_,?_,?_,?_,?_,?_,?_,b6 ?_,b6 ?_,b6 ?_,bw⟩,by simp [intOf]⟩
      all_goals first|(simp [go_sem, *];done)|(intro o;simp [go_sem, *];done)
end Go.Proofs.YtdhbeoahpfimbaaGreat
