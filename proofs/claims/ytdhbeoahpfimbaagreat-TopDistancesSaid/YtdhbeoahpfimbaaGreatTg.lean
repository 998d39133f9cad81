/- Part of the proof of TopDistances. -/
import Derived.Test.YtdhbeoahpfimbaaGreatMu
namespace Go.Proofs.YtdhbeoahpfimbaaGreat
open Go.RowKit
def piW:Int:=3*o6+nv 2611923443488327891 1376283091369227076 11820040416388919760 589684135938649225
def G5 (n:Int):Int:=piW*n/10800000
set_option maxHeartbeats 4000000 in
theorem QX (n h3 l3 s3 c3 t3 h2 l2 s2 c2 t2 h1 l1 s1 c1 t1 h0 l0 s0 c0 t0 q0 q1 q2 q3:Int) (w:World) (n0:0<=n) (n1:n<=5400000)
  (M3:Hid (∀w,Calls Tryz.prog 109 #[.int .u64 589684135938649225,.int .u64 n] w fun e w'=>e= .returned (.tuple #[.int .u64 h3,.int .u64 l3])/\w=w'))
  (M2:Hid (∀w,Calls Tryz.prog 109 #[.int .u64 11820040416388919760,.int .u64 n] w fun e w'=>e= .returned (.tuple #[.int .u64 h2,.int .u64 l2])/\w=w'))
  (M1:Hid (∀w,Calls Tryz.prog 109 #[.int .u64 1376283091369227076,.int .u64 n] w fun e w'=>e= .returned (.tuple #[.int .u64 h1,.int .u64 l1])/\w=w'))
  (M0:Hid (∀w,Calls Tryz.prog 109 #[.int .u64 2611923443488327891,.int .u64 n] w fun e w'=>e= .returned (.tuple #[.int .u64 h0,.int .u64 l0])/\w=w'))
  (A3:∀w,(callFunc 309 #[.int .u64 l3,.int .u64 0,.int .u64 0]).run Tryz.prog w= .ok (.value (.tuple #[.int .u64 s3,.int .u64 c3])) w) (W3:IntKind.u64.wrap (h3+c3)=t3)
  (A2:∀w,(callFunc 309 #[.int .u64 l2,.int .u64 t3,.int .u64 0]).run Tryz.prog w= .ok (.value (.tuple #[.int .u64 s2,.int .u64 c2])) w) (W2:IntKind.u64.wrap (h2+c2)=t2)
  (A1:∀w,(callFunc 309 #[.int .u64 l1,.int .u64 t2,.int .u64 0]).run Tryz.prog w= .ok (.value (.tuple #[.int .u64 s1,.int .u64 c1])) w) (W1:IntKind.u64.wrap (h1+c1)=t1)
  (A0:∀w,(callFunc 309 #[.int .u64 l0,.int .u64 t1,.int .u64 0]).run Tryz.prog w= .ok (.value (.tuple #[.int .u64 s0,.int .u64 c0])) w) (W0:IntKind.u64.wrap (h0+c0)=t0)
  (b0:0<=t0) (b1:t0<=5400000)
  (D:CB 355 #[.agg #[.int .u64 s0,.int .u64 s1,.int .u64 s2,.int .u64 s3],.int .u64 ((t0+3*n)%10800000),.int .u64 10800000] (.agg #[.int .u64 q0,.int .u64 q1,.int .u64 q2,.int .u64 q3])):
  Calls Tryz.prog 337 #[.int .i64 n] w fun e w'=>e= .returned (.agg #[.int .u64 q0,.int .u64 q1,.int .u64 q2,.int .u64 q3])/\Below w.heap.size w w':=by
 go_enter Tryz.func337,Tryz.ntmps337
 go_wp2
 refine wp_loop_rounds 5 ?_
 rw [rounds_succ]
 go_wp2_with (go_at_call 109;((with_reducible refine am (M3.out _) ?_);rintro w' rfl))
 rw [rounds_succ]
 go_wp2_with (go_at_call 109;((with_reducible refine am (M2.out _) ?_);rintro w' rfl))
 rw [rounds_succ]
 go_wp2_with (go_at_call 109;((with_reducible refine am (M1.out _) ?_);rintro w' rfl))
 rw [rounds_succ]
 go_wp2_with (go_at_call 109;((with_reducible refine am (M0.out _) ?_);rintro w' rfl))
 rw [rounds_succ]
 go_wp2_with (go_at_call 355;((with_reducible refine am (D.out _) ?_);intro w' hb);replace hb:=mU;obtain ⟨hcell,hfroz,hz,_⟩:=mB)
 exact bodyPost_ret (v:= .agg #[.int .u64 q0,.int .u64 q1,.int .u64 q2,.int .u64 q3]) (by first|(simp only [results,Tryz.results337];go_simp;done)|simp [results,Tryz.results337,go_sem, *]) rfl ⟨rfl,bv⟩
theorem kV (x n t:Int) (hx:v7 x) (n0:0<=n) (n1:n<=5400000) (t0:0<=t) (t1:t<=5400000):∃h l s c t2,
  Hid (∀w,Calls Tryz.prog 109 #[.int .u64 x,.int .u64 n] w fun e w'=>e= .returned (.tuple #[.int .u64 h,.int .u64 l])/\w=w')/\
  (∀w,(callFunc 309 #[.int .u64 l,.int .u64 t,.int .u64 0]).run Tryz.prog w= .ok (.value (.tuple #[.int .u64 s,.int .u64 c])) w)/\IntKind.u64.wrap (h+c)=t2/\v7 s/\0<=t2/\t2<=5400000/\t2*18446744073709551616+s=x*n+t:=by
 have p0:0<=x*n:=Int.mul_nonneg hx.1 n0
 have p1:x*n<=18446744073709551615*5400000:=Int.mul_le_mul hx.2 n1 n0 (by omega)
 have M:=fun w=>eL x n w hx.1 hx.2 n0 (by omega)
 generalize x*n=P at*
 refine ⟨P/18446744073709551616,P%18446744073709551616,(P%18446744073709551616+t+0)%18446744073709551616,(P%18446744073709551616+t+0)/18446744073709551616,P/18446744073709551616+(P%18446744073709551616+t+0)/18446744073709551616,b6 M,?_,?_,?_,?_,?_,?_⟩
 ·exact fun w=>W6 _ t 0 (by omega) t0 (by omega) (by omega) w
 ·rw [IntKind.wrap_u64];omega
 ·unfold v7;omega
 ·omega
 ·omega
 ·omega
theorem oW (n:Int) (n0:0<=n) (n1:n<=2700000):0<=G5 n/\G5 n<o6:=by
 unfold G5 piW nv o6 G9
 omega
theorem IF (n:Int) (w:World) (n0:0<=n) (n1:n<=2700000):
  Calls Tryz.prog 337 #[.int .i64 n] w fun e w'=>e= .returned (cJ (G5 n))/\Below w.heap.size w w'/\0<=G5 n/\G5 n<o6:=by
 obtain ⟨h3,l3,s3,c3,t3,M3,A3,E3,w3,x3,y3,e3⟩:=kV 589684135938649225 n 0 ⟨by omega,by omega⟩ n0 (by omega) (by omega) (by omega)
 obtain ⟨h2,l2,s2,c2,t2,M2,A2,E2,w2,x2,y2,e2⟩:=kV 11820040416388919760 n t3 ⟨by omega,by omega⟩ n0 (by omega) x3 y3
 obtain ⟨h1,l1,s1,c1,t1,M1,A1,E1,w1,x1,y1,e1⟩:=kV 1376283091369227076 n t2 ⟨by omega,by omega⟩ n0 (by omega) x2 y2
 obtain ⟨h0,l0,s0,c0,t0,M0,A0,E0,w0,x0,y0,e0⟩:=kV 2611923443488327891 n t1 ⟨by omega,by omega⟩ n0 (by omega) x1 y1
 have k:=L6 s0 s1 s2 s3 w0 w1 w2 w3
 have tb:7*t0<=n:=by unfold v7 at*;omega
 have em:(t0+3*n)%10800000=t0+3*n:=by omega
 have D:=fun w=>yC (nv s0 s1 s2 s3) ((t0+3*n)%10800000) 10800000 w k.2.2.2.2.1 k.2.2.2.2.2 (by omega) (by omega) (by omega)
 have ev:((t0+3*n)%10800000*o6+nv s0 s1 s2 s3)/10800000=G5 n:=by
  rw [em]
  unfold G5
  congr 1
  unfold piW nv o6 G9
  omega
 rw [ev,Z8 s0 s1 s2 s3 w0 w1 w2 w3] at D
 obtain ⟨e,w',hD⟩:∃r0 r1:Int,(0<=G5 n/\G5 n<o6):=⟨0,0,by
  unfold G5 piW nv o6 G9
  omega⟩
 obtain ⟨q0,q1,q2,q3,_,_,_,_,_,nQ⟩:=x9 (G5 n) hD.1 hD.2
 have D':∀w,Calls Tryz.prog 355 #[.agg #[.int .u64 s0,.int .u64 s1,.int .u64 s2,.int .u64 s3],.int .u64 ((t0+3*n)%10800000),.int .u64 10800000] w fun e w'=>e= .returned (.agg #[.int .u64 q0,.int .u64 q1,.int .u64 q2,.int .u64 q3])/\Below w.heap.size w w':=
  fun w=>(D w).mono fun _ _ ⟨a,b,_⟩=>⟨by rw [<-nQ];exact a,b⟩
 refine (QX n h3 l3 s3 c3 t3 h2 l2 s2 c2 t2 h1 l1 s1 c1 t1 h0 l0 s0 c0 t0 q0 q1 q2 q3 w n0 (by omega) M3 M2 M1 M0 A3 E3 A2 E2 A1 E1 A0 E0 x0 y0 (b6 D')).mono fun _ _ ⟨a,b⟩=>⟨by rw [nQ];exact a,b,hD.1,hD.2⟩
def jN (odd:Int) (k:Nat):Int:=(2*(k:Int)-1+odd)*(2*(k:Int)+odd)
def L9 (Y odd:Int):Nat->Int
 |0=>0
 |m+1=>(Y/jN odd (34-m)-R4 (Y/jN odd (34-m)) (L9 Y odd m))%o6
def cY (X odd:Int):Int:=L9 (R4 X X) odd 34
theorem BU:cJ 0= .agg #[.int .u64 0,.int .u64 0,.int .u64 0,.int .u64 0]:=by
 have h:=Z8 0 0 0 0 ⟨by omega,by omega⟩ ⟨by omega,by omega⟩ ⟨by omega,by omega⟩ ⟨by omega,by omega⟩
 exact h
theorem gK:(0:Int)<o6:=by unfold o6 G9;omega
theorem vR (x:Int):0<=x%o6/\x%o6<o6:=⟨Int.emod_nonneg _ (by have:=gK;omega),Int.emod_lt_of_pos _ gK⟩
theorem lT (Y odd:Int) (m:Nat):0<=L9 Y odd m/\L9 Y odd m<o6:=by
 cases m with
 |zero=>exact ⟨by simp [L9],by simp [L9,gK]⟩
 |succ m=>exact vR _
def nT (A a b c d:Int):Prop:=cJ A= .agg #[.int .u64 a,.int .u64 b,.int .u64 c,.int .u64 d]
theorem zT (Y odd:Int) (m:Nat) (y0 y1 y2 y3 u0 u1 u2 u3:Int) (hY:0<=Y/\Y<o6) (ho:0<=odd/\odd<=1) (hm:m<34)
  (nY:nT Y y0 y1 y2 y3) (nU:nT (L9 Y odd m) u0 u1 u2 u3):∃q0 q1 q2 q3 p0 p1 p2 p3 v0 v1 v2 v3:Int,
  CB 355 #[.agg #[.int .u64 y0,.int .u64 y1,.int .u64 y2,.int .u64 y3],.int .u64 0,.int .u64 (jN odd (34-m))] (.agg #[.int .u64 q0,.int .u64 q1,.int .u64 q2,.int .u64 q3])/\
  CB 339 #[.agg #[.int .u64 q0,.int .u64 q1,.int .u64 q2,.int .u64 q3],.agg #[.int .u64 u0,.int .u64 u1,.int .u64 u2,.int .u64 u3]] (.agg #[.int .u64 p0,.int .u64 p1,.int .u64 p2,.int .u64 p3])/\
  CB 338 #[.agg #[.int .u64 q0,.int .u64 q1,.int .u64 q2,.int .u64 q3],.agg #[.int .u64 p0,.int .u64 p1,.int .u64 p2,.int .u64 p3]] (.agg #[.int .u64 v0,.int .u64 v1,.int .u64 v2,.int .u64 v3])/\
  nT (L9 Y odd (m+1)) v0 v1 v2 v3:=by
 have d0:1<=jN odd (34-m)/\jN odd (34-m)<=18446744073709551615:=by
  obtain ⟨k,hk⟩:∃k:Nat,34-m=k:=⟨_,rfl⟩
  rw [hk]
  unfold jN
  have a1:1<=2*(k:Int)-1+odd:=by omega
  have a2:2*(k:Int)-1+odd<=68:=by omega
  have b1:1<=2*(k:Int)+odd:=by omega
  have b2:2*(k:Int)+odd<=69:=by omega
  have:=Int.mul_le_mul a1 b1 (by omega) (by omega)
  have:=Int.mul_le_mul a2 b2 (by omega) (by omega)
  omega
 generalize hd:jN odd (34-m)=d at*
 have D:=fun w=>yC Y 0 d w hY.1 hY.2 (by omega) (by omega) d0.2
 have e0:(0*o6+Y)/d=Y/d:=by rw [Int.zero_mul,Int.zero_add]
 rw [e0] at D
 have q0:0<=Y/d:=Int.ediv_nonneg hY.1 (by omega)
 have q1:Y/d<o6:=by
  have:=Int.ediv_le_self d hY.1
  omega
 have ub:=lT Y odd m
 have M:=fun w=>pU (Y/d) (L9 Y odd m) w q0 q1 ub.1 ub.2
 have S:=fun w=>pX (Y/d) (R4 (Y/d) (L9 Y odd m)) w q0 q1
 have ev:L9 Y odd (m+1)=(Y/d-R4 (Y/d) (L9 Y odd m))%o6:=by rw [<-hd];rfl
 have mb:0<=R4 (Y/d) (L9 Y odd m)/\R4 (Y/d) (L9 Y odd m)<o6:=by
  obtain ⟨a,b,c,e,ha,hb,hc,he,eA,nA⟩:=x9 (Y/d) q0 q1
  exact wL _ _ q0 q1 ub.1 ub.2
 obtain ⟨a0,a1,a2,a3,_,_,_,_,_,nQ⟩:=x9 (Y/d) q0 q1
 obtain ⟨b0,b1,b2,b3,_,_,_,_,_,nP⟩:=x9 _ mb.1 mb.2
 obtain ⟨c0,c1,c2,c3,_,_,_,_,_,nV⟩:=x9 _ (vR (Y/d-R4 (Y/d) (L9 Y odd m))).1 (vR _).2
 unfold nT at nY nU
 refine ⟨a0,a1,a2,a3,b0,b1,b2,b3,c0,c1,c2,c3,b6 fun w=> ?_,b6 fun w=> ?_,b6 fun w=> ?_,?_⟩
 ·rw [<-nY,<-nQ];exact (D w).mono fun _ _ h=>⟨h.1,h.2.1⟩
 ·rw [<-nQ,<-nU,<-nP];exact (M w).mono fun _ _ h=>⟨h.1,h.2.1⟩
 ·rw [<-nQ,<-nP,<-nV];exact S w mb.1 mb.2
 ·unfold nT;rw [ev];exact nV
def a1i (w4:World) (Y odd:Int) (K:Value) (wr:World):Prop:=
 ∃(j m:Nat) (u0 u1 u2 u3:Int),j+m=34/\K= .int .u64 j/\Below w4.heap.size w4 wr/\w4.heap.size<wr.heap.size/\(∀o,wr.frozen? ⟨w4.heap.size,o,none⟩=false)/\nT (L9 Y odd m) u0 u1 u2 u3/\
  wr.cell? ⟨w4.heap.size,0,none⟩=some (.int .u64 u0)/\wr.cell? ⟨w4.heap.size,1,none⟩=some (.int .u64 u1)/\wr.cell? ⟨w4.heap.size,2,none⟩=some (.int .u64 u2)/\wr.cell? ⟨w4.heap.size,3,none⟩=some (.int .u64 u3)
theorem WU (odd:Int) (j m:Nat) (h:j+m=34) (ho:0<=odd/\odd<=1) (hj:0<j):IntKind.u64.wrap ((2*(j:Int)-1+odd)*(2*(j:Int)+odd))=jN odd (34-m):=by
 have e:34-m=j:=by omega
 rw [e]
 unfold jN
 have a1:1<=2*(j:Int)-1+odd:=by omega
 have a2:2*(j:Int)-1+odd<=68:=by omega
 have b1:1<=2*(j:Int)+odd:=by omega
 have b2:2*(j:Int)+odd<=69:=by omega
 have:=Int.mul_le_mul a1 b1 (by omega) (by omega)
 have:=Int.mul_le_mul a2 b2 (by omega) (by omega)
 rw [IntKind.wrap_u64];omega
theorem QR {w4 w6 wN:World} {Y odd:Int} {j m:Nat} {u0 u1 u2 u3 v0 v1 v2 v3:Int} (hjm:j+m=34) (hj:0<j) (hb0:Below w4.heap.size w4 w6) (hb6:Below w6.heap.size w6 wN) (z:w4.heap.size<w6.heap.size) (fz:∀o,w6.frozen? ⟨w4.heap.size,o,none⟩=false)
  (nV:nT (L9 Y odd (m+1)) v0 v1 v2 v3) (g0:w6.cell? ⟨w4.heap.size,0,none⟩=some (.int .u64 u0)) (g1:w6.cell? ⟨w4.heap.size,1,none⟩=some (.int .u64 u1)) (g2:w6.cell? ⟨w4.heap.size,2,none⟩=some (.int .u64 u2)) (g3:w6.cell? ⟨w4.heap.size,3,none⟩=some (.int .u64 u3)):
  a1i w4 Y odd (.int .u64 ((j:Int)-1)) ((((wN.setCell ⟨w4.heap.size,0,none⟩ (.int .u64 v0)).setCell ⟨w4.heap.size,1,none⟩ (.int .u64 v1)).setCell ⟨w4.heap.size,2,none⟩ (.int .u64 v2)).setCell ⟨w4.heap.size,3,none⟩ (.int .u64 v3)):=by
 have hs:=hb6.size
 have bc:=oK hb6
 have k:∀o,wN.cell? ⟨w4.heap.size,o,none⟩=w6.cell? ⟨w4.heap.size,o,none⟩:=fun o=>bc.1 _ o z
 have f:∀o,wN.frozen? ⟨w4.heap.size,o,none⟩=w6.frozen? ⟨w4.heap.size,o,none⟩:=fun o=>bc.2 _ o z
 refine ⟨j-1,m+1,v0,v1,v2,v3,by omega,congrArg _ (by omega),?_,by simp;omega,?_,nV,?_,?_,?_,?_⟩
 ·exact (((((hb0.trans (hb6.mono (Nat.le_of_lt z))).setCell (Nat.le_refl _) _).setCell (Nat.le_refl _) _).setCell (Nat.le_refl _) _).setCell (Nat.le_refl _) _)
 ·intro o;simp [f,fz]
 all_goals simp [go_sem,k,g0,g1,g2,g3]
set_option maxRecDepth 100000 in
set_option maxHeartbeats 4000000 in
theorem MK (odd Y xa xb xc xd ya yb yc yd:Int) (w:World) (hY:0<=Y/\Y<o6) (ho0:0<=odd) (ho1:odd<=1) (nY:nT Y ya yb yc yd)
  (MY:CB 339 #[.agg #[.int .u64 xa,.int .u64 xb,.int .u64 xc,.int .u64 xd],.agg #[.int .u64 xa,.int .u64 xb,.int .u64 xc,.int .u64 xd]] (.agg #[.int .u64 ya,.int .u64 yb,.int .u64 yc,.int .u64 yd])) (v:Value) (hv:cJ (L9 Y odd 34)=v):
  Calls Tryz.prog 340 #[.agg #[.int .u64 xa,.int .u64 xb,.int .u64 xc,.int .u64 xd],.int .u64 odd] w fun e w'=>e= .returned v/\Below w.heap.size w w':=by
 replace nY:=b6 nY
 replace hv:=b6 hv
 replace hY:=b6 hY
 go_enter Tryz.func340,Tryz.ntmps340
 go_upto_region 2 with (go_at_call 339;((with_reducible refine am (MY.out _) ?_);intro w' hb);replace hb:=mU;obtain ⟨hcell,hfroz,hz,_⟩:=mB;obtain ⟨w3,rfl⟩:=nm w')
 (refine m9 ?_;intro w' hb;replace hb:=mU;obtain ⟨hcell,hfroz,hz,_⟩:=mB)
 obtain ⟨w4,rfl⟩:=nm w'
 go_wp2
 go_loopw [7] (fun K wr=>a1i w4 Y odd K wr) (fun K _=>(intOf K).toNat)
 case atStart=>
  refine ⟨34,0,0,0,0,0,rfl,rfl,bv,by simp,?_,BU,?_,?_,?_,?_⟩
  all_goals (simp [go_sem, *];done)
 case round=>
  obtain ⟨j,m,u0,u1,u2,u3,hjm,rfl,hb,z,fz,nU,g0,g1,g2,g3⟩:=hrel
  obtain ⟨w',rfl⟩:∃v,v=wr:=⟨_,rfl⟩
  replace hb:=mU;obtain ⟨hcell,hfroz,hz,_⟩:=mB
  obtain ⟨w6,rfl⟩:=nm w'
  by_cases hj:0<j
  ·obtain ⟨q0,q1,q2,q3,p0,p1,p2,p3,v0,v1,v2,v3,DQ,MP,SV,nV⟩:=zT Y odd m ya yb yc yd u0 u1 u2 u3 hY.out ⟨ho0,ho1⟩ (by omega) nY.out nU
   have hD:=WU odd j m hjm ⟨ho0,ho1⟩ hj
   generalize jN odd (34-m)=D at*
   replace nU:=b6 nU
   replace nV:=b6 nV
   have j34:j<=34:=by omega
   replace hjm:=b6 hjm
   go_wp2_with (go_at_call 355;((with_reducible refine am (DQ.out _) ?_);intro w' hb);replace hb:=mU;obtain ⟨hcell,hfroz,hz,_⟩:=mB;obtain ⟨w5,rfl⟩:=nm w')
   go_region_with (first|((go_at_call 339;((with_reducible refine am (MP.out _) ?_);intro w' hb);replace hb:=mU;obtain ⟨hcell,hfroz,hz,_⟩:=mB))|((go_at_call 338;((with_reducible refine am (SV.out _) ?_);intro w' hb);replace hb:=mU;obtain ⟨hcell,hfroz,hz,_⟩:=mB)))
   all_goals go_wp2
   all_goals go_roundw
   all_goals (first
    |(exact QR hjm.out hj (by assumption) bv z fz nV.out g0 g1 g2 g3)
    |(simp [intOf];omega))
  ·obtain rfl:j=0:=by omega
   obtain rfl:m=34:=by omega
   replace nU:=b6 nU
   go_wp2
   exact bodyPost_ret (v:= .agg #[.int .u64 u0,.int .u64 u1,.int .u64 u2,.int .u64 u3]) (by first|(simp only [results,Tryz.results340];go_simp;done)|simp [results,Tryz.results340,go_sem, *]) rfl ⟨by rw [<-hv.out];exact congrArg _ nU.out.symm,bv⟩
theorem AM (X odd:Int) (w:World) (a0:0<=X) (a1:X<o6) (ho0:0<=odd) (ho1:odd<=1):
  Calls Tryz.prog 340 #[cJ X,.int .u64 odd] w fun e w'=>e= .returned (cJ (cY X odd))/\Below w.heap.size w w':=by
 have m:=wL X X a0 a1 a0 a1
 obtain ⟨xa,xb,xc,xd,_,_,_,_,_,nX⟩:=x9 X a0 a1
 obtain ⟨ya,yb,yc,yd,_,_,_,_,_,nY⟩:=x9 (R4 X X) m.1 m.2
 have MY:=fun w=>pU X X w a0 a1 a0 a1
 rw [nX]
 refine MK odd (R4 X X) xa xb xc xd ya yb yc yd w m ho0 ho1 nY (b6 fun w=> ?_) _ rfl
 rw [<-nX,<-nY]
 exact (MY w).mono fun _ _ h=>⟨h.1,h.2.1⟩
def NA (n:Int):Int:=(G5 n-R4 (G5 n) (cY (G5 n) 1))%o6
def OQ (n:Int):Int:=(0-cY (G5 n) 0)%o6
def mD (n:Int):Int:=if 2*n<=5400000 then NA n else OQ (5400000-n)
def O7 (n:Int):Bool:=decide (n=0)||decide (n=1800000)||decide (n=5400000)
def K3 (n:Int):Int:=if n=0 then 0 else if n=1800000 then 536870912 else if n=5400000 then 1073741824 else mD n/(G9*G9*G9)/17179869184
theorem lK (X odd:Int):0<=cY X odd/\cY X odd<o6:=lT _ _ _
theorem yO {w wN:World} (h:Below w.heap.size w wN):Below w.heap.size w wN.drew/\(∀b o,w.heap.size<b->b<wN.heap.size->wN.drew.cell? ⟨b,o,none⟩=wN.cell? ⟨b,o,none⟩)/\(∀b o,b<wN.heap.size->wN.drew.frozen? ⟨b,o,none⟩=wN.frozen? ⟨b,o,none⟩):=
 ⟨h.drew,fun _ _ _ _=>by simp,fun _ _ _=>by simp⟩
theorem QS {w wN v:World} (h:Below w.heap.size w wN) (hv:Below wN.heap.size wN v):Below w.heap.size w v/\(∀b o,w.heap.size<b->b<wN.heap.size->v.cell? ⟨b,o,none⟩=wN.cell? ⟨b,o,none⟩)/\(∀b o,b<wN.heap.size->v.frozen? ⟨b,o,none⟩=wN.frozen? ⟨b,o,none⟩):=
 ⟨o5 hv h,fun b o _ hb=>(oK hv).1 b o hb,fun b o hb=>(oK hv).2 b o hb⟩
theorem xC {w wN v:World} (h:Below w.heap.size w wN) (hv:Below wN.heap.size wN v) (x0 x1 x2 x3:Value):
  Below w.heap.size w ((((v.setCell ⟨w.heap.size,0,none⟩ x0).setCell ⟨w.heap.size,1,none⟩ x1).setCell ⟨w.heap.size,2,none⟩ x2).setCell ⟨w.heap.size,3,none⟩ x3)/\
  (∀b o,w.heap.size<b->b<wN.heap.size->((((v.setCell ⟨w.heap.size,0,none⟩ x0).setCell ⟨w.heap.size,1,none⟩ x1).setCell ⟨w.heap.size,2,none⟩ x2).setCell ⟨w.heap.size,3,none⟩ x3).cell? ⟨b,o,none⟩=wN.cell? ⟨b,o,none⟩)/\
  (∀b o,b<wN.heap.size->((((v.setCell ⟨w.heap.size,0,none⟩ x0).setCell ⟨w.heap.size,1,none⟩ x1).setCell ⟨w.heap.size,2,none⟩ x2).setCell ⟨w.heap.size,3,none⟩ x3).frozen? ⟨b,o,none⟩=wN.frozen? ⟨b,o,none⟩):=by
 refine ⟨((((o5 hv h).setCell (Nat.le_refl _) _).setCell (Nat.le_refl _) _).setCell (Nat.le_refl _) _).setCell (Nat.le_refl _) _,fun b o hb hN=> ?_,fun b o hN=> ?_⟩
 ·have ne:∀p,(⟨w.heap.size,p,none⟩:Addr)≠⟨b,o,none⟩:=fun p e=>by injection e with e;omega
  rw [World.cell?_setCell_other _ _ _ _ (ne 3),World.cell?_setCell_other _ _ _ _ (ne 2),World.cell?_setCell_other _ _ _ _ (ne 1),World.cell?_setCell_other _ _ _ _ (ne 0)]
  exact (oK hv).1 b o hN
 ·simp;exact (oK hv).2 b o hN
set_option maxHeartbeats 16000000 in
theorem UO (n xa xb xc xd la lb lc ld ma mb mc md sa sb sc sd:Int) (w:World) (n0:0<n) (n1:n≠1800000) (n2:2*n<=5400000)
  (R:CB 337 #[.int .i64 n] (.agg #[.int .u64 xa,.int .u64 xb,.int .u64 xc,.int .u64 xd]))
  (L:CB 340 #[.agg #[.int .u64 xa,.int .u64 xb,.int .u64 xc,.int .u64 xd],.int .u64 1] (.agg #[.int .u64 la,.int .u64 lb,.int .u64 lc,.int .u64 ld]))
  (M:CB 339 #[.agg #[.int .u64 xa,.int .u64 xb,.int .u64 xc,.int .u64 xd],.agg #[.int .u64 la,.int .u64 lb,.int .u64 lc,.int .u64 ld]] (.agg #[.int .u64 ma,.int .u64 mb,.int .u64 mc,.int .u64 md]))
  (S:CB 338 #[.agg #[.int .u64 xa,.int .u64 xb,.int .u64 xc,.int .u64 xd],.agg #[.int .u64 ma,.int .u64 mb,.int .u64 mc,.int .u64 md]] (.agg #[.int .u64 sa,.int .u64 sb,.int .u64 sc,.int .u64 sd]))
  (s0:0<=sa) (s1:sa<=18446744073709551615):
  Calls Tryz.prog 304 #[.int .i64 n] w fun e w'=>e= .returned (.tuple #[.int .i64 (sa/17179869184),.bool false])/\Below w.heap.size w w':=by
 have e1:(n==0)=false:=by simp;omega
 have e2:(n==1800000)=false:=by simpa using n1
 have e3:(n==5400000)=false:=by simp;omega
 go_enter Tryz.func304,Tryz.ntmps304
 go_upto_region 11 with (go_at_call 337;((with_reducible refine am (R.out _) ?_);intro w' hb);replace hb:=mU;obtain ⟨hcell,hfroz,hz,_⟩:=mB;obtain ⟨w1,rfl⟩:=nm w')
 have zz:w.heap.size<w1.heap.size+1:=by omega
 (refine DC ?_;intro w' hb;replace hb:=mU;obtain ⟨hcell,hfroz,hz,_⟩:=mB)
 replace hb:Below w.heap.size w w':=o5 hb bv
 obtain ⟨w1,rfl⟩:=nm w'
 have z1:w.heap.size<w1.heap.size:=by omega
 clear R
 go_region_held3 (fun v=>Below w.heap.size w v/\(∀b o,w.heap.size<b->b<w1.heap.size->v.cell? ⟨b,o,none⟩=w1.cell? ⟨b,o,none⟩)/\(∀b o,b<w1.heap.size->v.frozen? ⟨b,o,none⟩=w1.frozen? ⟨b,o,none⟩)) (first|exact yO (by assumption)|(refine QS (by assumption) ?_;exact bv;done)|(refine xC (by assumption) ?_ _ _ _ _;exact bv;done)) (first|((go_at_call 340;((with_reducible refine am (L.out _) ?_);intro w' hb);replace hb:=mU;obtain ⟨hcell,hfroz,hz,_⟩:=mB))|((go_at_call 339;((with_reducible refine am (M.out _) ?_);intro w' hb);replace hb:=mU;obtain ⟨hcell,hfroz,hz,_⟩:=mB))|((go_at_call 338;((with_reducible refine am (S.out _) ?_);intro w' hb);replace hb:=mU;obtain ⟨hcell,hfroz,hz,_⟩:=mB)))
 go_wp2
 go_ret2
 exact ⟨rfl,bv⟩
set_option maxHeartbeats 4000000 in
theorem QL (n xa xb xc xd la lb lc ld sa sb sc sd:Int) (w:World) (n0:n≠5400000) (n1:n<=5400000) (n2:¬2*n<=5400000)
  (R:CB 337 #[.int .i64 (5400000-n)] (.agg #[.int .u64 xa,.int .u64 xb,.int .u64 xc,.int .u64 xd]))
  (L:CB 340 #[.agg #[.int .u64 xa,.int .u64 xb,.int .u64 xc,.int .u64 xd],.int .u64 0] (.agg #[.int .u64 la,.int .u64 lb,.int .u64 lc,.int .u64 ld]))
  (S:CB 338 #[.agg #[.int .u64 0,.int .u64 0,.int .u64 0,.int .u64 0],.agg #[.int .u64 la,.int .u64 lb,.int .u64 lc,.int .u64 ld]] (.agg #[.int .u64 sa,.int .u64 sb,.int .u64 sc,.int .u64 sd]))
  (s0:0<=sa) (s1:sa<=18446744073709551615):
  Calls Tryz.prog 304 #[.int .i64 n] w fun e w'=>e= .returned (.tuple #[.int .i64 (sa/17179869184),.bool false])/\Below w.heap.size w w':=by
 have e1:(n==0)=false:=by simp;omega
 have e2:(n==1800000)=false:=by simp;omega
 have e3:(n==5400000)=false:=by simpa using n0
 go_enter Tryz.func304,Tryz.ntmps304
 go_wp2_with (first|((go_at_call 337;((with_reducible refine am (R.out _) ?_);intro w' hb);replace hb:=mU;obtain ⟨hcell,hfroz,hz,_⟩:=mB))|((go_at_call 340;((with_reducible refine am (L.out _) ?_);intro w' hb);replace hb:=mU;obtain ⟨hcell,hfroz,hz,_⟩:=mB))|((go_at_call 338;((with_reducible refine am (S.out _) ?_);intro w' hb);replace hb:=mU;obtain ⟨hcell,hfroz,hz,_⟩:=mB)))
 go_ret2
 exact ⟨rfl,bv⟩
theorem DX (n:Int) (w:World) (h:O7 n=true):
  Calls Tryz.prog 304 #[.int .i64 n] w fun e w'=>e= .returned (.tuple #[.int .i64 (K3 n),.bool true])/\Below w.heap.size w w':=by
 have k:n=0\/n=1800000\/n=5400000:=by
  unfold O7 at h;simp at h;omega
 rcases k with rfl|rfl|rfl
 ·go_enter Tryz.func304,Tryz.ntmps304
  go_wp2
  go_ret2
  exact ⟨rfl,bv⟩
 ·go_enter Tryz.func304,Tryz.ntmps304
  go_wp2
  go_ret2
  exact ⟨rfl,bv⟩
 ·go_enter Tryz.func304,Tryz.ntmps304
  go_wp2
  go_ret2
  exact ⟨rfl,bv⟩
theorem wH (n:Int):0<=mD n/\mD n<o6:=by
 unfold mD;split<;>exact vR _
theorem zZ (r:Int) (_h0:0<=r) (_h1:r<=5400000) (h:O7 r=false):0<=K3 r/\K3 r<1073741824:=by
 have k:¬r=0/\¬r=1800000/\¬r=5400000:=by
  unfold O7 at h;simp at h;omega
 have b:=wH r
 unfold K3
 rw [if_neg k.1,if_neg k.2.1,if_neg k.2.2]
 unfold o6 G9 at*
 omega
theorem lQ (r:Int) (h0:0<=r) (h1:r<=5400000):0<=K3 r/\K3 r<=1073741824:=by
 cases h:O7 r
 ·have:=zZ r h0 h1 h;omega
 ·have k:r=0\/r=1800000\/r=5400000:=by
   unfold O7 at h;simp at h;omega
  rcases k with rfl|rfl|rfl<;>decide
theorem PW (n:Int) (w:World) (n0:0<=n) (n1:n<=5400000):
  Calls Tryz.prog 304 #[.int .i64 n] w fun e w'=>e= .returned (.tuple #[.int .i64 (K3 n),.bool (O7 n)])/\Below w.heap.size w w':=by
 cases h:O7 n
 ·have k:¬n=0/\¬n=1800000/\¬n=5400000:=by
   unfold O7 at h;simp at h;omega
  have ev:K3 n=mD n/(G9*G9*G9)/17179869184:=by
   unfold K3;rw [if_neg k.1,if_neg k.2.1,if_neg k.2.2]
  have sb:=wH n
  obtain ⟨sa,sb2,sc,sd,wa,_,_,_,eS,nS⟩:=x9 (mD n) sb.1 sb.2
  have es:mD n/(G9*G9*G9)=sa:=by
   have:=nS
   unfold cJ at this
   injection this with this
   simp at this
   exact this.1
  rw [ev,es]
  by_cases h2:2*n<=5400000
  ·have e:mD n=NA n:=if_pos h2
   rw [e] at nS
   have R:=fun w=>IF n w n0 (by omega)
   have X:0<=G5 n/\G5 n<o6:=oW n n0 (by omega)
   have lb:=lK (G5 n) 1
   have mb:=wL (G5 n) (cY (G5 n) 1) X.1 X.2 lb.1 lb.2
   obtain ⟨xa,xb,xc,xd,_,_,_,_,_,nX⟩:=x9 (G5 n) X.1 X.2
   obtain ⟨la,lb2,lc,ld,_,_,_,_,_,nL⟩:=x9 _ lb.1 lb.2
   obtain ⟨ma,mb2,mc,md,_,_,_,_,_,nM⟩:=x9 _ mb.1 mb.2
   refine UO n xa xb xc xd la lb2 lc ld ma mb2 mc md sa sb2 sc sd w (by omega) k.2.1 h2 (b6 fun w=> ?_) (b6 fun w=> ?_) (b6 fun w=> ?_) (b6 fun w=> ?_) wa.1 wa.2
   ·rw [<-nX];exact (R w).mono fun _ _ h=>⟨h.1,h.2.1⟩
   ·rw [<-nX,<-nL];exact AM _ _ w X.1 X.2 (by omega) (by omega)
   ·rw [<-nX,<-nL,<-nM];exact (pU _ _ w X.1 X.2 lb.1 lb.2).mono fun _ _ h=>⟨h.1,h.2.1⟩
   ·rw [<-nX,<-nM,<-nS];exact pX _ _ w X.1 X.2 mb.1 mb.2
  ·have e:mD n=OQ (5400000-n):=if_neg h2
   rw [e] at nS
   have X:0<=G5 (5400000-n)/\G5 (5400000-n)<o6:=oW (5400000-n) (by omega) (by omega)
   have lb:=lK (G5 (5400000-n)) 0
   obtain ⟨xa,xb,xc,xd,_,_,_,_,_,nX⟩:=x9 (G5 (5400000-n)) X.1 X.2
   obtain ⟨la,lb2,lc,ld,_,_,_,_,_,nL⟩:=x9 _ lb.1 lb.2
   refine QL n xa xb xc xd la lb2 lc ld sa sb2 sc sd w k.2.2 n1 h2 (b6 fun w=> ?_) (b6 fun w=> ?_) (b6 fun w=> ?_) wa.1 wa.2
   ·rw [<-nX];exact (IF _ w (by omega) (by omega)).mono fun _ _ h=>⟨h.1,h.2.1⟩
   ·rw [<-nX,<-nL];exact AM _ _ w X.1 X.2 (by omega) (by omega)
   ·rw [<-BU,<-nL,<-nS];exact pX _ _ w (by omega) gK lb.1 lb.2
 ·exact DX n w h
theorem qI (n:Int) (w:World):
  Calls Tryz.prog 303 #[.int .i64 n] w fun e w'=>e= .returned (.int .i64 (n%21600000))/\w=w':=by
 obtain ⟨t,ht⟩:∃t,n.tmod 21600000=t:=⟨_,rfl⟩
 have hd:=Int.mul_tdiv_add_tmod n 21600000
 rw [ht] at hd
 have h1: -21600000<t/\t<21600000:=by
  have e:=Int.natAbs_tmod n 21600000
  have e2:Int.natAbs 21600000=21600000:=rfl
  rw [ht,e2] at e
  omega
 by_cases hn:0<=n
 ·have ht2:n.tmod 21600000=n%21600000:=Int.tmod_eq_emod_of_nonneg hn
  clear hd h1 ht
  have h0:0<=n%21600000:=by omega
  go_enter Tryz.func303,Tryz.ntmps303
  go_wp2
  go_ret
  exact ⟨rfl,rfl⟩
 ·have hs:t<=0:=by
   have e:n.tmod 21600000= -((-n).tmod 21600000):=by rw [Int.neg_tmod,Int.neg_neg]
   rw [ht,Int.tmod_eq_emod_of_nonneg (show 0<= -n by omega)] at e
   omega
  generalize n.tdiv 21600000=q at*
  by_cases hz:t<0
  ·have E:Hid (t+21600000=n%21600000):=by unfold Hid;omega
   have l1:=h1.1
   have l2:=h1.2
   clear hd h1
   go_enter Tryz.func303,Tryz.ntmps303
   go_wp2
   go_ret
   exact ⟨N3 E.out,rfl⟩
  ·have E:Hid (t=n%21600000):=by unfold Hid;omega
   have l1:=h1.1
   have l2:=h1.2
   clear hd h1
   go_enter Tryz.func303,Tryz.ntmps303
   go_wp2
   go_ret
   exact ⟨N3 E.out,rfl⟩
def wO (r:Int):Int:=if O7 r then K3 r else K3 r+1
def K7 (n:Int):Int:=
 if 10800000<n%21600000 then (if 5400000<n%21600000-10800000 then 10800000-(n%21600000-10800000) else n%21600000-10800000)
 else (if 5400000<n%21600000 then 10800000-n%21600000 else n%21600000)
def T6 (n:Int):Int:=if 10800000<n%21600000 then -(wO (K7 n)) else K3 (K7 n)
def T8 (n:Int):Int:=if 10800000<n%21600000 then -(K3 (K7 n)) else wO (K7 n)
theorem vS (n:Int):0<=K7 n/\K7 n<=5400000:=by unfold K7;split<;>split<;>omega
theorem SR (r:Int) (h:0<=r/\r<=5400000):K3 r<=wO r/\wO r<=K3 r+1/\wO r<=1073741824:=by
 have b:=lQ r h.1 h.2
 unfold wO
 split
 ·omega
 ·rename_i e
  have:=(zZ r h.1 h.2 (by simpa using e)).2
  omega
theorem rG (n:Int): -1073741824<=T6 n/\T6 n<=T8 n/\T8 n<=T6 n+1/\T8 n<=1073741824:=by
 have r:=vS n
 have u:=SR (K7 n) r
 have b:=lQ (K7 n) r.1 r.2
 unfold T6 T8
 split<;>omega
set_option maxHeartbeats 1000000 in
theorem AJ (n m r lo:Int) (E:Bool) (up:Int) (w:World) (hm:n%21600000=m) (m0:0<=m) (m1:m<21600000)
  (hr:r=if 10800000<m then (if 5400000<m-10800000 then 10800000-(m-10800000) else m-10800000) else (if 5400000<m then 10800000-m else m))
  (S:CB 304 #[.int .i64 r] (.tuple #[.int .i64 lo,.bool E])) (l0:0<=lo) (l1:lo<=1073741824) (hu:up=if E then lo else lo+1):
  Calls Tryz.prog 266 #[.int .i64 n] w fun e w'=>e= .returned (.tuple #[.int .i64 (if 10800000<m then -up else lo),.int .i64 (if 10800000<m then -lo else up)])/\Below w.heap.size w w':=by
 have T:=b6 fun w=>qI n w
 rw [hm] at T
 clear hm
 by_cases h1:10800000<m
 ·rw [if_pos h1] at hr
  rw [if_pos h1,if_pos h1]
  by_cases h2:5400000<m-10800000
  ·rw [if_pos h2] at hr
   subst hr
   cases E
   all_goals
    simp at hu
    subst hu
    go_enter Tryz.func266,Tryz.ntmps266
    go_wp2_with (first|(go_at_call 303;((with_reducible refine am (T.out _) ?_);rintro w' rfl))|(go_at_call 304;((with_reducible refine am (S.out _) ?_);intro w' hb);replace hb:=mU;obtain ⟨hcell,hfroz,hz,_⟩:=mB))
    go_ret2
    exact ⟨rfl,bv⟩
  ·rw [if_neg h2] at hr
   subst hr
   cases E
   all_goals
    simp at hu
    subst hu
    go_enter Tryz.func266,Tryz.ntmps266
    go_wp2_with (first|(go_at_call 303;((with_reducible refine am (T.out _) ?_);rintro w' rfl))|(go_at_call 304;((with_reducible refine am (S.out _) ?_);intro w' hb);replace hb:=mU;obtain ⟨hcell,hfroz,hz,_⟩:=mB))
    go_ret2
    exact ⟨rfl,bv⟩
 ·rw [if_neg h1] at hr
  rw [if_neg h1,if_neg h1]
  by_cases h2:5400000<m
  ·rw [if_pos h2] at hr
   subst hr
   cases E
   all_goals
    simp at hu
    subst hu
    go_enter Tryz.func266,Tryz.ntmps266
    go_wp2_with (first|(go_at_call 303;((with_reducible refine am (T.out _) ?_);rintro w' rfl))|(go_at_call 304;((with_reducible refine am (S.out _) ?_);intro w' hb);replace hb:=mU;obtain ⟨hcell,hfroz,hz,_⟩:=mB))
    go_ret2
    exact ⟨rfl,bv⟩
  ·rw [if_neg h2] at hr
   subst hr
   cases E
   all_goals
    simp at hu
    subst hu
    go_enter Tryz.func266,Tryz.ntmps266
    go_wp2_with (first|(go_at_call 303;((with_reducible refine am (T.out _) ?_);rintro w' rfl))|(go_at_call 304;((with_reducible refine am (S.out _) ?_);intro w' hb);replace hb:=mU;obtain ⟨hcell,hfroz,hz,_⟩:=mB))
    go_ret2
    exact ⟨rfl,bv⟩
theorem kF (n:Int) (w:World):
  Calls Tryz.prog 266 #[.int .i64 n] w fun e w'=>e= .returned (.tuple #[.int .i64 (T6 n),.int .i64 (T8 n)])/\Below w.heap.size w w':=by
 have r:=vS n
 have b:=lQ (K7 n) r.1 r.2
 exact AJ n (n%21600000) (K7 n) (K3 (K7 n)) (O7 (K7 n)) (wO (K7 n)) w rfl (by omega) (by omega) rfl (b6 fun w=>PW (K7 n) w r.1 r.2) b.1 b.2 rfl
def jI (lo hi:Int):Bool:=decide (-1099511627776<=lo)&&decide (lo<=hi)&&decide (hi<=1099511627776)
theorem FQ {lo hi:Int} (h:jI lo hi=true): -1099511627776<=lo/\lo<=hi/\hi<=1099511627776:=by simp [jI] at h;omega
theorem XN {lo hi:Int} (h: -1099511627776<=lo/\lo<=hi/\hi<=1099511627776):jI lo hi=true:=by simp [jI];omega
theorem qL {lo hi:Int} (h:¬(-1099511627776<=lo/\lo<=hi/\hi<=1099511627776)):jI lo hi=false:=by simp [jI];omega
set_option maxHeartbeats 400000 in
theorem iJ (a b:Int) (w:World):
  Calls Tryz.prog 216 #[.agg #[.int .i64 a,.int .i64 b]] w fun e w'=>e= .returned (.bool (jI a b))/\Below w.heap.size w w':=by
 by_cases h1: -1099511627776<=a
 ·by_cases h2:a<=b
  ·by_cases h3:b<=1099511627776
   ·have H:=b6 (XN ⟨h1,h2,h3⟩)
    go_enter Tryz.func216,Tryz.ntmps216
    go_wp2
    go_ret
    exact ⟨by rw [H.out];rfl,bv⟩
   ·have H:=b6 (qL (lo:=a) (hi:=b) (by omega))
    go_enter Tryz.func216,Tryz.ntmps216
    go_wp2
    go_ret
    exact ⟨by rw [H.out];rfl,bv⟩
  ·have H:=b6 (qL (lo:=a) (hi:=b) (by omega))
   go_enter Tryz.func216,Tryz.ntmps216
   go_wp2
   go_ret
   exact ⟨by rw [H.out];rfl,bv⟩
 ·have H:=b6 (qL (lo:=a) (hi:=b) (by omega))
  go_enter Tryz.func216,Tryz.ntmps216
  go_wp2
  go_ret
  exact ⟨by rw [H.out];rfl,bv⟩
def dC (a b n:Int):Bool:=decide ((n-a)%21600000<=b-a)
set_option maxHeartbeats 400000 in
theorem sG (a b n:Int) (w:World) (a0: -1099517027776<=a) (a1:a<=1099517027776) (b0: -1099517027776<=b) (b1:b<=1099517027776) (n0:0<=n) (n1:n<=21600000):
  Calls Tryz.prog 267 #[.agg #[.int .i64 a,.int .i64 b],.int .i64 n] w fun e w'=>e= .returned (.bool (dC a b n))/\Below w.heap.size w w':=by
 obtain ⟨t,ht⟩:∃t,(n-a)%21600000=t:=⟨_,rfl⟩
 have T:=fun w=>qI (n-a) w
 have E:Hid (decide (t<=b-a)=dC a b n):=by unfold Hid dC;rw [ht]
 rw [ht] at T
 replace T:=b6 T
 clear ht
 go_enter Tryz.func267,Tryz.ntmps267
 go_wp2
 go_quiet ((go_at_call 303;(with_reducible exact u6 (T.out _))))
 go_wp2
 go_ret
 exact ⟨by rw [<-E.out];rfl,bv⟩
def K9 (a b:Int):Int:=if dC a b 16200000 then -1073741824 else min (T6 a) (T6 b)
def K8 (a b:Int):Int:=if dC a b 5400000 then 1073741824 else max (T8 a) (T8 b)
set_option maxHeartbeats 1000000 in
theorem PG (a b p q r s L H:Int) (U V:Bool) (w:World) (_a0: -1099517027776<=a) (_a1:a<=1099517027776) (_b0: -1099517027776<=b) (_b1:b<=1099517027776)
  (A:CB 266 #[.int .i64 a] (.tuple #[.int .i64 p,.int .i64 q]))
  (B:CB 266 #[.int .i64 b] (.tuple #[.int .i64 r,.int .i64 s]))
  (M1:CB 267 #[.agg #[.int .i64 a,.int .i64 b],.int .i64 5400000] (.bool U))
  (M3:CB 267 #[.agg #[.int .i64 a,.int .i64 b],.int .i64 16200000] (.bool V))
  (hL:(if V then -1073741824 else min p r)=L) (hH:(if U then 1073741824 else max q s)=H):
  Calls Tryz.prog 217 #[.agg #[.int .i64 a,.int .i64 b]] w fun e w'=>e= .returned (.agg #[.int .i64 L,.int .i64 H])/\Below w.heap.size w w':=by
 cases U<;>cases V
 all_goals
  simp at hL hH
  subst hL hH
  go_enter Tryz.func217,Tryz.ntmps217
  go_wp2_with (first|(go_at_call 266;((with_reducible refine am (A.out _) ?_);intro w' hb);replace hb:=mU;obtain ⟨hcell,hfroz,hz,_⟩:=mB)|(go_at_call 266;((with_reducible refine am (B.out _) ?_);intro w' hb);replace hb:=mU;obtain ⟨hcell,hfroz,hz,_⟩:=mB)|(go_at_call 267;((with_reducible refine am (M1.out _) ?_);intro w' hb);replace hb:=mU;obtain ⟨hcell,hfroz,hz,_⟩:=mB)|(go_at_call 267;((with_reducible refine am (M3.out _) ?_);intro w' hb);replace hb:=mU;obtain ⟨hcell,hfroz,hz,_⟩:=mB))
  first
   |exact bodyPost_ret (v:= .agg #[.int .i64 (min p r),.int .i64 (max q s)]) (by first|(simp only [results,Tryz.results217];go_simp;done)|simp [results,Tryz.results217,go_sem, *]) rfl ⟨rfl,bv⟩
   |exact bodyPost_ret (v:= .agg #[.int .i64 (-1073741824),.int .i64 (max q s)]) (by first|(simp only [results,Tryz.results217];go_simp;done)|simp [results,Tryz.results217,go_sem, *]) rfl ⟨rfl,bv⟩
   |exact bodyPost_ret (v:= .agg #[.int .i64 (min p r),.int .i64 1073741824]) (by first|(simp only [results,Tryz.results217];go_simp;done)|simp [results,Tryz.results217,go_sem, *]) rfl ⟨rfl,bv⟩
   |exact bodyPost_ret (v:= .agg #[.int .i64 (-1073741824),.int .i64 1073741824]) (by first|(simp only [results,Tryz.results217];go_simp;done)|simp [results,Tryz.results217,go_sem, *]) rfl ⟨rfl,bv⟩
theorem vJ (a b:Int) (w:World) (a0: -1099517027776<=a) (a1:a<=1099517027776) (b0: -1099517027776<=b) (b1:b<=1099517027776):
  Calls Tryz.prog 217 #[.agg #[.int .i64 a,.int .i64 b]] w fun e w'=>e= .returned (.agg #[.int .i64 (K9 a b),.int .i64 (K8 a b)])/\Below w.heap.size w w':=
 PG a b _ _ _ _ _ _ _ _ w a0 a1 b0 b1 (b6 fun w=>kF a w) (b6 fun w=>kF b w) (b6 fun w=>sG a b 5400000 w a0 a1 b0 b1 (by omega) (by omega)) (b6 fun w=>sG a b 16200000 w a0 a1 b0 b1 (by omega) (by omega)) rfl rfl
theorem oD (a b:Int) (w:World) (a0: -1099511627776<=a) (a1:a<=1099511627776) (b0: -1099511627776<=b) (b1:b<=1099511627776):
  Calls Tryz.prog 218 #[.agg #[.int .i64 a,.int .i64 b]] w fun e w'=>e= .returned (.agg #[.int .i64 (a+5400000),.int .i64 (b+5400000)])/\Below w.heap.size w w':=by
 go_enter Tryz.func218,Tryz.ntmps218
 go_wp2
 exact bodyPost_ret (v:= .agg #[.int .i64 (a+5400000),.int .i64 (b+5400000)]) (by first|(simp only [results,Tryz.results218];go_simp;done)|simp [results,Tryz.results218,go_sem, *]) rfl ⟨rfl,bv⟩
set_option maxHeartbeats 400000 in
theorem a1p (a b:Int) (w:World) (h:jI a b=true):
  Calls Tryz.prog 125 #[.agg #[.int .i64 a,.int .i64 b]] w fun e w'=>e= .returned (.tuple #[.agg #[.int .i64 (K9 a b),.int .i64 (K8 a b)],.int .i64 0])/\Below w.heap.size w w':=by
 obtain ⟨a1,a2,a3⟩:=FQ h
 have E:=b6 fun w=>vJ a b w (by omega) (by omega) (by omega) (by omega)
 go_enter Tryz.func125,Tryz.ntmps125
 go_wp2_with (first|(go_at_call 216;((with_reducible refine am (iJ _ _ _) ?_);intro w' hb);replace hb:=mU;obtain ⟨hcell,hfroz,hz,_⟩:=mB)|(go_at_call 217;((with_reducible refine am (E.out _) ?_);intro w' hb);replace hb:=mU;obtain ⟨hcell,hfroz,hz,_⟩:=mB))
 exact bodyPost_ret (v:= .tuple #[.agg #[.int .i64 (K9 a b),.int .i64 (K8 a b)],.int .i64 0]) (by first|(simp only [results,Tryz.results125];go_simp;done)|simp [results,Tryz.results125,go_sem, *]) rfl ⟨rfl,bv⟩
set_option maxHeartbeats 400000 in
theorem FM (a b:Int) (w:World) (h:jI a b=true):
  Calls Tryz.prog 124 #[.agg #[.int .i64 a,.int .i64 b]] w fun e w'=>e= .returned (.tuple #[.agg #[.int .i64 (K9 (a+5400000) (b+5400000)),.int .i64 (K8 (a+5400000) (b+5400000))],.int .i64 0])/\Below w.heap.size w w':=by
 obtain ⟨a1,a2,a3⟩:=FQ h
 have E:=b6 fun w=>vJ (a+5400000) (b+5400000) w (by omega) (by omega) (by omega) (by omega)
 have F:=b6 fun w=>oD a b w (by omega) (by omega) (by omega) (by omega)
 go_enter Tryz.func124,Tryz.ntmps124
 go_wp2_with (first|(go_at_call 216;((with_reducible refine am (iJ _ _ _) ?_);intro w' hb);replace hb:=mU;obtain ⟨hcell,hfroz,hz,_⟩:=mB)|(go_at_call 218;((with_reducible refine am (F.out _) ?_);intro w' hb);replace hb:=mU;obtain ⟨hcell,hfroz,hz,_⟩:=mB)|(go_at_call 217;((with_reducible refine am (E.out _) ?_);intro w' hb);replace hb:=mU;obtain ⟨hcell,hfroz,hz,_⟩:=mB))
 exact bodyPost_ret (v:= .tuple #[.agg #[.int .i64 (K9 (a+5400000) (b+5400000)),.int .i64 (K8 (a+5400000) (b+5400000))],.int .i64 0]) (by first|(simp only [results,Tryz.results124];go_simp;done)|simp [results,Tryz.results124,go_sem, *]) rfl ⟨rfl,bv⟩
theorem RY (a b:Int): -1073741824<=K9 a b/\K9 a b<=1073741824/\ -1073741824<=K8 a b/\K8 a b<=1073741824:=by
 have x:=rG a
 have y:=rG b
 unfold K9 K8
 split<;>split<;>omega
def jL (a b:Int):Int:=(1073741824-K8 (a+5400000) (b+5400000))/2
def oG (a b:Int):Int:=(1073741824-K9 (a+5400000) (b+5400000)+1)/2
set_option maxHeartbeats 400000 in
theorem a15 (a b:Int) (w:World) (h:jI a b=true):
  Calls Tryz.prog 147 #[.agg #[.int .i64 a,.int .i64 b]] w fun e w'=>e= .returned (.tuple #[.agg #[.int .i64 (jL a b),.int .i64 (oG a b)],.int .i64 0])/\Below w.heap.size w w':=by
 obtain ⟨a1,a2,a3⟩:=FQ h
 have E:=fun w=>vJ (a+5400000) (b+5400000) w (by omega) (by omega) (by omega) (by omega)
 have F:=b6 fun w=>oD a b w (by omega) (by omega) (by omega) (by omega)
 have bd:=RY (a+5400000) (b+5400000)
 have HL:Hid (jL a b=jL a b):=rfl
 unfold jL oG
 generalize K9 (a+5400000) (b+5400000)=x at*
 generalize K8 (a+5400000) (b+5400000)=y at*
 clear HL
 obtain ⟨b1,b2,b3,b4⟩:=bd
 replace E:=b6 E
 go_enter Tryz.func147,Tryz.ntmps147
 go_wp2_with (first|(go_at_call 216;((with_reducible refine am (iJ _ _ _) ?_);intro w' hb);replace hb:=mU;obtain ⟨hcell,hfroz,hz,_⟩:=mB)|(go_at_call 218;((with_reducible refine am (F.out _) ?_);intro w' hb);replace hb:=mU;obtain ⟨hcell,hfroz,hz,_⟩:=mB)|(go_at_call 217;((with_reducible refine am (E.out _) ?_);intro w' hb);replace hb:=mU;obtain ⟨hcell,hfroz,hz,_⟩:=mB))
 exact bodyPost_ret (v:= .tuple #[.agg #[.int .i64 ((1073741824-y)/2),.int .i64 ((1073741824-x+1)/2)],.int .i64 0]) (by first|(simp only [results,Tryz.results147];go_simp;done)|simp [results,Tryz.results147,go_sem, *]) rfl ⟨rfl,bv⟩
def U6 (lo hi v:Int):Int:=if hi<=v/\lo<v then -1 else if v<=lo/\v<hi then 1 else if v=lo then 0 else if v<lo then 1 else -1
set_option maxHeartbeats 1000000 in
theorem FO (n v lo hi:Int) (w:World)
  (B:CB 266 #[.int .i64 n] (.tuple #[.int .i64 lo,.int .i64 hi])):
  Calls Tryz.prog 298 #[.int .i64 n,.int .i64 v] w fun e w'=>e= .returned (.int .i64 (U6 lo hi v))/\Below w.heap.size w w':=by
 have K:∀r,U6 lo hi v=r->Hid (U6 lo hi v=r):=fun r h=>b6 h
 by_cases h1:hi<=v
 ·by_cases h2:lo<v
  ·have E:=K (-1) (by unfold U6;simp [h1,h2])
   clear K
   go_enter Tryz.func298,Tryz.ntmps298
   go_wp2_with (go_at_call 266;((with_reducible refine am (B.out _) ?_);intro w' hb);replace hb:=mU;obtain ⟨hcell,hfroz,hz,_⟩:=mB)
   go_ret
   exact ⟨N3 E.out.symm,bv⟩
  ·by_cases h3:v=lo
   ·have E:=K 0 (by unfold U6;subst h3;simp;omega)
    subst h3
    clear K h2
    have h4:¬v<hi:=by omega
    go_enter Tryz.func298,Tryz.ntmps298
    go_wp2_with (go_at_call 266;((with_reducible refine am (B.out _) ?_);intro w' hb);replace hb:=mU;obtain ⟨hcell,hfroz,hz,_⟩:=mB)
    go_ret
    exact ⟨N3 E.out.symm,bv⟩
   ·have E:=K 1 (by unfold U6;rw [if_neg (by omega),if_neg (by omega),if_neg h3,if_pos (by omega)])
    clear K
    have h4:¬v<hi:=by omega
    have h5:(v==lo)=false:=by simpa using h3
    have h6:v<lo:=by omega
    go_enter Tryz.func298,Tryz.ntmps298
    go_wp2_with (go_at_call 266;((with_reducible refine am (B.out _) ?_);intro w' hb);replace hb:=mU;obtain ⟨hcell,hfroz,hz,_⟩:=mB)
    go_ret
    exact ⟨N3 E.out.symm,bv⟩
 ·have h4:v<hi:=by omega
  by_cases h2:v<=lo
  ·have E:=K 1 (by unfold U6;rw [if_neg (by omega),if_pos (by omega)])
   clear K
   go_enter Tryz.func298,Tryz.ntmps298
   go_wp2_with (go_at_call 266;((with_reducible refine am (B.out _) ?_);intro w' hb);replace hb:=mU;obtain ⟨hcell,hfroz,hz,_⟩:=mB)
   go_ret
   exact ⟨N3 E.out.symm,bv⟩
  ·have E:=K (-1) (by unfold U6;rw [if_neg (by omega),if_neg (by omega),if_neg (by omega),if_neg (by omega)])
   clear K
   have h5:(v==lo)=false:=by simp;omega
   have h6:¬v<lo:=by omega
   go_enter Tryz.func298,Tryz.ntmps298
   go_wp2_with (go_at_call 266;((with_reducible refine am (B.out _) ?_);intro w' hb);replace hb:=mU;obtain ⟨hcell,hfroz,hz,_⟩:=mB)
   go_ret
   exact ⟨N3 E.out.symm,bv⟩
theorem NS (n v:Int) (w:World):
  Calls Tryz.prog 298 #[.int .i64 n,.int .i64 v] w fun e w'=>e= .returned (.int .i64 (U6 (T6 n) (T8 n) v))/\Below w.heap.size w w':=
 FO n v _ _ w (b6 fun w=>kF n w)
end Go.Proofs.YtdhbeoahpfimbaaGreat
