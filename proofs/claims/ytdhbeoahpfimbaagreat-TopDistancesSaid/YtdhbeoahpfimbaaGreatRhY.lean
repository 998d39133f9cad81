/- Part of the proof of TopDistances. -/
import Derived.Test.YtdhbeoahpfimbaaGreatRhX
import Derived.Test.YtdhbeoahpfimbaaGreatPl
import Derived.Test.YtdhbeoahpfimbaaGreatRhQ
namespace Go.Proofs.YtdhbeoahpfimbaaGreat
open Go.RowKit Rot
theorem a3k (z:Int) (z0:0<=z) (z1:3*z<=vN) (j:Nat):z<=aS z (j+1):=by
 induction j with
 |zero=>show z<=0+z/(2*((0:Nat):Int)+1);omega
 |succ j ih=>
  have h:=aF z z0 z1 (j+1)
  have d0:0<=aT z (j+1)/(2*((j+1:Nat):Int)+1):=Int.ediv_nonneg h.1 (by omega)
  show z<=aS z (j+1)+aT z (j+1)/(2*((j+1:Nat):Int)+1)
  omega
theorem YC (d m W:Int) (W0:0<W) (d0:0<=d) (m0:0<m) (h:3*d<=m):0<=d*W/m/\3*(d*W/m)<=W:=by
 have a:d*W/m*m<=d*W:=Int.ediv_mul_le _ (by omega)
 have b:3*d*W<=m*W:=Int.mul_le_mul_of_nonneg_right h (by omega)
 refine ⟨Int.ediv_nonneg (Int.mul_nonneg d0 (by omega)) (by omega),?_⟩
 have c:3*(d*W/m)*m<=W*m:=by
  have e1:3*(d*W/m)*m=3*(d*W/m*m):=by grind
  have e2:3*d*W=3*(d*W):=by grind
  have e3:W*m=m*W:=Int.mul_comm _ _
  omega
 exact Int.le_of_mul_le_mul_right c m0
theorem OO (v W:Int) (W0:1000<=W) (h:3*W<=4*v+8) (h1:v<=W):2*((W-v)*W/(v+W))<=W/3:=by
 have m0:0<v+W:=by omega
 have a:(W-v)*W/(v+W)*(v+W)<=(W-v)*W:=Int.ediv_mul_le _ (by omega)
 have z0:0<=(W-v)*W/(v+W):=Int.ediv_nonneg (Int.mul_nonneg (by omega) (by omega)) (by omega)
 generalize (W-v)*W/(v+W)=z at*
 have b:=Int.mul_le_mul_of_nonneg_left (show 20*(W-v)<=3*(v+W) by omega) (show 0<=W by omega)
 have c:20*z*(v+W)<=3*W*(v+W):=by
  have e1:20*z*(v+W)=20*(z*(v+W)):=by grind
  have e2:W*(20*(W-v))=20*((W-v)*W):=by grind
  have e3:W*(3*(v+W))=3*W*(v+W):=by grind
  omega
 have:=Int.le_of_mul_le_mul_right c m0
 omega
theorem a2G (u:Int) (_h0:vN<=u) (h1:u<vN*512):∃K:Nat,K<=10/\hv 10 u 0=(u/2^K,K)/\u/2^K<lN/\(∀k,k<K->lN<=u/2^k)/\(K=0\/3*vN<=4*(u/2^K)+8):=by
 have l:=PC
 have v:=aG
 obtain ⟨m,h2,h3,h4,h5⟩:=IL 10 u 0 (by rw [show (2:Int)^10=1024 by decide];omega)
 have p:(0:Int)<2^m:=Int.pow_pos (by decide)
 refine ⟨m,h2,by rw [h3,Nat.zero_add],Int.ediv_lt_of_lt_mul p h4,?_,?_⟩
 ·intro k hk
  obtain ⟨d,rfl⟩:∃d,m=k+1+d:=⟨m-(k+1),by omega⟩
  rcases h5 with h5|h5
  ·omega
  ·apply Int.le_ediv_of_mul_le (Int.pow_pos (by decide))
   have e:(2:Int)^(k+1+d)=2^k*2*2^d:=by rw [Int.pow_add,Int.pow_succ]
   have q:(1:Int)<=2^d:=Int.pow_pos (by decide)
   have r:(0:Int)<=lN*2^k:=Int.mul_nonneg (by omega) (Int.le_of_lt (Int.pow_pos (by decide)))
   have:=Int.mul_le_mul_of_nonneg_left q (show (0:Int)<=2*(lN*2^k) by omega)
   rw [e] at h5
   have e2:lN*(2^k*2*2^d)=2*(lN*2^k)*2^d:=by grind
   omega
 ·rcases h5 with h5|h5
  ·exact .inl h5
  ·refine .inr ?_
   have e:u/2^m*2^m+u%2^m=u:=Int.ediv_mul_add_emod u (2^m)
   have r:=Int.emod_lt_of_pos u p
   generalize u/2^m=x at*
   generalize u%2^m=y at*
   have a:lN*2^m<=(2*x+2)*2^m:=by
    have:(2*x+2)*2^m=2*(x*2^m)+2*2^m:=by grind
    omega
   have:=Int.le_of_mul_le_mul_right a p
   omega
theorem a0d (X W p:Int) (W0:0<W) (p0:0<p):X*W/p/W=X/p:=by
 rw [Int.ediv_ediv_of_nonneg (by omega),Int.mul_comm p W,Int.mul_comm X W,Int.mul_ediv_mul_of_pos _ _ W0]
theorem a18 (a b c d:Int) (ha:v7 a) (hb:v7 b) (hc:v7 c):nv d c b a/x6=d:=by
 unfold nv v7 x6 G9 at*
 omega
theorem a23 (v:Int):sS v=if v<vN then -aS ((vN-v)*vN/(v+vN)) 64 else aS ((v-vN)*vN/(v+vN)) 64:=rfl
theorem a0b (g t A S W:Int) (K:Nat) (B:Bool) (hK:K<=10) (W0:3000<=W) (A0:W/3<=A) (A1:A<=W) (S0:0<=S) (S1:S<=W) (h1:B=true->1<=K/\S<=W/3) (hg:g=A*(2*(K:Int))) (ht:t=S+S):
  0<=g/\g<=20*W/\0<=(if B=true then g-t else g+t)/\(if B=true then g-t else g+t)/2=A*(K:Int)+(if B=true then -S else S)/\(if B=true then g-t else g+t)<=22*W:=by
 have m:A*(2*(K:Int))=2*(A*(K:Int)):=by grind
 have m0:0<=A*(K:Int):=Int.mul_nonneg (by omega) (by omega)
 have m1:A*(K:Int)<=10*W:=by have:=Int.mul_le_mul A1 (show (K:Int)<=10 by omega) (by omega) (by omega);omega
 cases B
 ·simp only [Bool.false_eq_true,if_false]
  omega
 ·have k:=h1 rfl
  have m2:A<=A*(K:Int):=by have:=Int.mul_le_mul_of_nonneg_left (show (1:Int)<=K by omega) (show 0<=A by omega);omega
  simp only [if_true]
  omega
set_option maxHeartbeats 1000000 in
theorem GF (n:Nat) (hn:n<=4800000):(0<=wP n/\wP n<200000000)/\∀w,Calls Tryz.prog 275 #[.int .i64 n] w fun e w'=>e= .returned (.int .i64 (wP n))/\Below w.heap.size w w':=by
 have vW:=a09
 have vp:=aG
 have lN2:=PC
 have W8:1000000000*x6<o6:=by decide
 have sb:=a1f n (by omega)
 have ub:=uH n (by omega)
 have pb:3*x6<=aP/\aP<=4*x6:=by decide
 have SN:=fun w=>KL n w (by omega)
 have us:uI n=(vN+sI n)*vN/(vN-sI n):=rfl
 have wp:wP n=hl (uI n)*10800000/aP:=rfl
 rw [wp]
 obtain ⟨u,hu⟩:∃u,uI n=u:=⟨_,rfl⟩
 obtain ⟨s,hs⟩:∃s,sI n=s:=⟨_,rfl⟩
 rw [hs] at sb us SN
 rw [hu] at us ub
 rw [hu]
 have ub1:=ub.1
 have ub2:=ub.2.1
 clear ub hu hs wp
 obtain ⟨K,hK,hk,kl,ke,k0⟩:=a2G u ub1 ub2
 have hlu:hl u=aS (vN/3) 64*(K:Int)+sS (u/2^K):=by unfold hl;rw [hk]
 clear hk
 obtain ⟨Uf,hU⟩:∃f:Nat->Int,f=fun k=>u/2^k:=⟨_,rfl⟩
 have U0:Uf 0=u:=by rw [hU];simp
 have Un:∀k,Uf (k+1)=Uf k/2:=fun k=>by rw [hU];simp only;rw [Int.pow_succ,Int.ediv_ediv_of_nonneg (Int.le_of_lt (Int.pow_pos (by decide)))]
 have Ub:∀k,0<=Uf k/\Uf k<512*vN:=fun k=>by
  induction k with
  |zero=>rw [U0];omega
  |succ k ih=>rw [Un];omega
 have Ul:∀k,k<K->lN<=Uf k:=fun k hk=>by rw [hU];exact ke k hk
 have UK:Uf K<lN:=by rw [hU];exact kl
 have U3:K=0\/3*vN<=4*Uf K+8:=by rw [hU];exact k0
 have UKe:u/2^K=Uf K:=by rw [hU]
 rw [UKe] at hlu
 clear hU ke kl k0 UKe
 have UKl:3*vN<=4*Uf K+8:=by
  rcases U3 with e|e
  ·rw [e,U0];omega
  ·exact e
 obtain ⟨f,hf⟩:=Classical.axiomOfChoice (fun k=>show ∃p:Int×Int×Int×Int,fY (Uf k) p.1 p.2.1 p.2.2.1 p.2.2.2 from by
  obtain ⟨a,b,c,d,h⟩:=H0 (Uf k) (Ub k).1 (by have:=(Ub k).2;omega)
  exact ⟨(a,b,c,d),h⟩)
 have RU:∀k,H8 (Uf k)= .agg #[.int .u64 (f k).1,.int .u64 (f k).2.1,.int .u64 (f k).2.2.1,.int .u64 (f k).2.2.2]:=fun k=>rwo (hf k)
 have th:=XF (vN/3) (by omega) (by omega) 64
 have th2:=a3k (vN/3) (by omega) (by omega) 63
 have th3:=(aF (vN/3) (by omega) (by omega) 64).1
 have AT:=fun w=>nW (vN/3) w (by omega) (by omega)
 obtain ⟨A,hA⟩:∃A,aS (vN/3) 64=A:=⟨_,rfl⟩
 rw [hA] at th th2 AT hlu
 obtain ⟨V,hV⟩:∃V,Uf K=V:=⟨_,rfl⟩
 have Vb:=Ub K
 rw [hV] at UK UKl hlu Vb
 obtain ⟨B,hB⟩:∃B,decide (V<vN)=B:=⟨_,rfl⟩
 obtain ⟨d,hd⟩:∃d,(if B=true then vN-V else V-vN)=d:=⟨_,rfl⟩
 have d0:0<=d/\3*d<=V+vN/\d<vN:=by
  cases B
  ·have:=of_decide_eq_false hB;simp only [Bool.false_eq_true,if_false] at hd;omega
  ·have:=of_decide_eq_true hB;simp only [if_true] at hd;omega
 obtain ⟨z,hz⟩:∃z,d*vN/(V+vN)=z:=⟨_,rfl⟩
 have z0:=YC d (V+vN) vN (by omega) d0.1 (by omega) d0.2.1
 rw [hz] at z0
 have sz:=XF z z0.1 z0.2 64
 have rS:=(aF z z0.1 z0.2 64).1
 have AZ:=fun w=>nW z w z0.1 z0.2
 have hsS:sS V=if B=true then -aS z 64 else aS z 64:=by
  rw [a23]
  cases B
  ·have g:=of_decide_eq_false hB;simp only [Bool.false_eq_true,if_false] at hd ⊢;rw [if_neg g,hd,hz]
  ·have g:=of_decide_eq_true hB;simp only [if_true] at hd ⊢;rw [if_pos g,hd,hz]
 have z7:B=true->2*z<=vN/3:=fun e=>by
  subst e
  have g:=of_decide_eq_true hB
  have:=OO V vN (by omega) UKl (by omega)
  simp only [if_true] at hd
  rw [hd,hz] at this
  exact this
 obtain ⟨S,hS⟩:∃S,aS z 64=S:=⟨_,rfl⟩
 rw [hS] at sz AZ hsS
 have K1:B=true->1<=K:=fun e=>by
  subst e
  have g:=of_decide_eq_true hB
  rcases Nat.eq_zero_or_pos K with k|k
  ·rw [k,U0] at hV;omega
  ·exact k
 have L:=a0b (A*(2*(K:Int))) (S+S) A S vN K B hK (by omega) th2 (by omega) sz.1 (by omega) (fun e=>⟨K1 e,by have:=z7 e;omega⟩) rfl rfl
 rw [hsS] at hlu
 obtain ⟨G,hG⟩:∃G,A*(2*(K:Int))=G:=⟨_,rfl⟩
 obtain ⟨F,hF⟩:∃F,(if B=true then G-(S+S) else G+(S+S))=F:=⟨_,rfl⟩
 rw [hG,hF] at L
 have hlF:hl u=F/2:=by rw [hlu,L.2.2.2.1]
 rw [hlF]
 have Ab:A<=vN:=by omega
 have Sb:S<=vN:=by omega
 clear hlF hlu hsS z7 K1 hA th3 rS
 have q0:0<=F/2*10800000:=by omega
 have q1:F/2*10800000<200000000*vN:=by omega
 have y0:0<=F/2*10800000*x6/aP:=Int.ediv_nonneg (Int.mul_nonneg q0 (by omega)) (by omega)
 have y1:F/2*10800000*x6/aP<200000000*vN:=by
  apply Int.ediv_lt_of_lt_mul (by omega)
  have a:F/2*10800000*x6<=F/2*10800000*aP:=Int.mul_le_mul_of_nonneg_left (by omega) q0
  have b:F/2*10800000*aP<200000000*vN*aP:=Int.mul_lt_mul_of_pos_right q1 (by omega)
  omega
 have y2:=a0d (F/2*10800000) x6 aP (by omega) (by omega)
 obtain ⟨Y,hY⟩:∃Y,F/2*10800000*x6/aP=Y:=⟨_,rfl⟩
 rw [hY] at y0 y1 y2
 rw [<-y2]
 obtain ⟨s0,s1,s2,s3,Hs⟩:=H0 s sb.1 (by omega)
 obtain ⟨l0,l1,l2,l3,Hl⟩:=H0 lN (by omega) (by omega)
 obtain ⟨t0,t1,t2,t3,Ht⟩:=H0 (vN/3) (by omega) (by omega)
 obtain ⟨g0,g1,g2,g3,Hg⟩:=H0 G L.1 (by omega)
 obtain ⟨m0,m1,m2,m3,Hm⟩:=H0 (V+vN) (by omega) (by omega)
 obtain ⟨f0,f1,f2,f3,Hf⟩:=H0 F L.2.2.1 (by omega)
 obtain ⟨r0,r1,r2,r3,Hr⟩:=H0 Y y0 (by omega)
 have top:Y/x6=r3:=by have h:=Hr;unfold fY at h;rw [h.2.2.2.2.2];exact a18 _ _ _ _ h.2.1 h.2.2.1 h.2.2.2.1
 rw [top]
 have r3b:0<=r3/\r3<1000000000000:=by
  rw [<-top]
  exact ⟨Int.ediv_nonneg y0 (by omega),Int.ediv_lt_of_lt_mul (by omega) (by omega)⟩
 have H3:vN+vN/2=lN:=by omega
 have e1:(vN+s)%o6=vN+s:=Int.emod_eq_of_lt (by omega) (by omega)
 have e2:(vN-s)%o6=vN-s:=Int.emod_eq_of_lt (by omega) (by omega)
 have e3:(vN+s)*vN/(vN-s)%o6=u:=by rw [<-us];exact Int.emod_eq_of_lt (by omega) (by omega)
 have e4:(vN+vN/2)%o6=lN:=by rw [H3];exact Int.emod_eq_of_lt (by omega) (by omega)
 have e5:A*(2*(K:Int))%o6=G:=by rw [hG];exact Int.emod_eq_of_lt L.1 (by omega)
 have e6:(V+vN)%o6=V+vN:=Int.emod_eq_of_lt (by omega) (by omega)
 have e7:d*vN/(V+vN)%o6=z:=by rw [hz];exact Int.emod_eq_of_lt z0.1 (by omega)
 have e8:(S+S)%o6=S+S:=Int.emod_eq_of_lt (by omega) (by omega)
 have e9:F/2*10800000%o6=F/2*10800000:=Int.emod_eq_of_lt q0 (by omega)
 have e10:F/2*10800000*vN/aP%o6=Y:=by rw [vW,hY];exact Int.emod_eq_of_lt y0 (by omega)
 rw [<-vW] at W8 pb
 have b20:0<=vN:=by omega
 have b21:vN<o6:=by omega
 have b22:s<o6:=by omega
 have b23:vN-s<o6:=by omega
 have b24:0<vN-s:=by omega
 have b25:vN-s<=4*vN:=by omega
 have b26:vN+s<o6:=by omega
 have b27:lN<o6:=by omega
 have b28:V<o6:=by omega
 have b29:V+vN<=4*vN:=by omega
 have b30:0<V+vN:=by omega
 have b31:d<o6:=by omega
 have b32:A<o6:=by omega
 have b33:0<=A:=by omega
 have b34:G<o6:=by omega
 have b35:S+S<o6:=by omega
 have b36:F<o6:=by omega
 have b37:S<o6:=by omega
 have b38:F/2*10800000<o6:=by omega
 have b39:0<aP:=by omega
 have b40:aP<=4*vN:=by omega
 have b41:F/2<o6:=by omega
 have b42:0<=lN:=by omega
 have b43:vN+vN/2<o6:=by omega
 have b44:vN/2<o6:=by omega
 have hY3:fY Y r0 r1 r2 r3:=Hr
 refine ⟨⟨r3b.1,by rw [<-top];exact Int.ediv_lt_of_lt_mul (by omega) (by omega)⟩,fun w=> ?_⟩
 refine yM n K (by omega) (H8 vN) (H8 (vN+s)) (H8 (vN-s)) (H8 (vN/2)) (H8 A) (H8 d) (H8 z) (H8 S) (H8 (S+S)) (H8 (F/2)) (H8 (F/2*10800000)) (H8 aP) s0 s1 s2 s3 l0 l1 l2 l3 t0 t1 t2 t3 g0 g1 g2 g3 m0 m1 m2 m3 f0 f1 f2 f3 r0 r1 r2 r3 (fun k=>(f k).1) (fun k=>(f k).2.1) (fun k=>(f k).2.2.1) (fun k=>(f k).2.2.2) B w r3b
  (b6 fun w=> ?_) (b6 fun w=> ?_) (b6 fun w=> ?_) (b6 fun w=> ?_) (b6 fun w=> ?_) (b6 fun w=> ?_) (b6 fun w=> ?_) (b6 fun w=> ?_) (b6 fun w=> ?_) (b6 fun w=> ?_) (b6 fun w=> ?_) (b6 fun w=> ?_) (b6 fun w=> ?_) (b6 fun w=> ?_) (b6 fun w=> ?_) (b6 fun w=> ?_) (b6 fun w=> ?_) (b6 fun w=> ?_) (b6 fun w=> ?_) (b6 fun k hk w=> ?_) (b6 fun k hk w=> ?_) (b6 ⟨fun e w=> ?_,fun e w=> ?_⟩) (b6 ⟨fun e w=> ?_,fun e w=> ?_⟩)
 ·have h:=SN w;rw [rwo Hs] at h;exact h
 ·have h:=PP w;rw [<-vW] at h;exact h
 ·have h:=aJ vN s w b20 b21 sb.1 b22;rw [e1,rwo Hs] at h;exact h
 ·have h:=dZ vN s w b20 b21 sb.1 b22;rw [e2,rwo Hs] at h;exact h
 ·have h:=nK (vN+s) (vN-s) w (by omega) b26 b24 (by rw [<-vW];exact b25);rw [<-vW,e3,<-U0,RU] at h;exact h
 ·exact mI vN w b20 b21
 ·have h:=aJ vN (vN/2) w b20 b21 (by omega) b44;rw [e4,rwo Hl] at h;exact h
 ·have h:=aY vN 3 w b20 b21 (by omega) (by omega);rw [rwo Ht] at h;exact h
 ·have h:=AT w;rw [rwo Ht] at h;exact h
 ·have h:=kI A (2*(K:Int)) w b33 b32 (by unfold v7;omega);rw [e5,rwo Hg] at h;exact h
 ·have h:=aJ V vN w (by omega) b28 b20 b21;rw [e6,rwo Hm,<-hV,RU] at h;exact h
 ·have h:=mW V vN w (by omega) b28 b20 b21;rw [hB,<-hV,RU] at h;exact h
 ·have h:=nK d (V+vN) w d0.1 b31 b30 (by rw [<-vW];exact b29);rw [<-vW,e7,rwo Hm] at h;exact h
 ·exact AZ w
 ·have h:=kA S w sz.1 b37;rw [e8] at h;exact h
 ·have h:=mI F w L.2.2.1 b36;rw [rwo Hf] at h;exact h
 ·have h:=kI (F/2) 10800000 w (by omega) b41 (by unfold v7;omega);rw [e9] at h;exact h
 ·have h:=UJ w;rw [GX] at h;exact h
 ·have h:=nK (F/2*10800000) aP w q0 b38 b39 (by rw [<-vW];exact b40);rw [<-vW,e10,rwo hY3] at h;exact h
 ·have h:=mW (Uf k) lN w (Ub k).1 (by have:=(Ub k).2;omega) b42 b27
  have e:decide (Uf k<lN)=decide (k=K):=by
   by_cases g:k=K
   ·subst g;rw [hV,decide_eq_true UK];simp
   ·have:=Ul k (by omega);simp [g];omega
  rw [e,RU,rwo Hl] at h
  exact h
 ·have h:=mI (Uf k) w (Ub k).1 (by have:=(Ub k).2;omega);rw [<-Un,RU,RU] at h;exact h
 ·have h:=dZ vN V w b20 b21 (by omega) b28
  subst e
  simp only [if_true] at hd
  rw [hd,Int.emod_eq_of_lt d0.1 b31,<-hV,RU] at h
  exact h
 ·have h:=dZ V vN w (by omega) b28 b20 b21
  subst e
  simp only [Bool.false_eq_true,if_false] at hd
  rw [hd,Int.emod_eq_of_lt d0.1 b31,<-hV,RU] at h
  exact h
 ·have h:=dZ G (S+S) w L.1 b34 (by omega) b35
  subst e
  simp only [if_true] at hF
  rw [hF,Int.emod_eq_of_lt L.2.2.1 b36,rwo Hg,rwo Hf] at h
  exact h
 ·have h:=aJ G (S+S) w L.1 b34 (by omega) b35
  subst e
  simp only [Bool.false_eq_true,if_false] at hF
  rw [hF,Int.emod_eq_of_lt L.2.2.1 b36,rwo Hg,rwo Hf] at h
  exact h
end Go.Proofs.YtdhbeoahpfimbaaGreat
