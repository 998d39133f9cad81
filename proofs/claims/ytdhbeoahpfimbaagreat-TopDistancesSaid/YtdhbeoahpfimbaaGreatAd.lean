/- Part of the proof of TopDistances. -/
import Derived.Test.YtdhbeoahpfimbaaGreatAc
import Derived.Test.YtdhbeoahpfimbaaGreatPe
import Derived.ChangeKeysEq
namespace Go.Proofs.YtdhbeoahpfimbaaGreat
open Go.RowKit Brg
set_option maxHeartbeats 1000000 in
theorem FG (a b c d p q r s:Int) (v:Bool) (w:World)
  (hv:v=if a=p then (if b=q then (if c=r then (if d=s then false else decide (d<s)) else decide (c<r)) else decide (b<q)) else decide (a<p)):
  Calls Tryz.prog 270 #[.agg #[.int .u64 a,.int .u64 b,.int .u64 c,.int .u64 d],.agg #[.int .u64 p,.int .u64 q,.int .u64 r,.int .u64 s]] w fun e w'=>e= .returned (.bool v)/\Below w.heap.size w w':=by
 have HV:=b6 hv
 clear hv
 go_enter Tryz.func270,Tryz.ntmps270
 go_wp2
 refine wp_loop_rounds 5 ?_
 by_cases h0:a=p
 ·subst h0
  rw [rounds_succ]
  go_wp2
  go_region
  go_wp2
  by_cases h1:b=q
  ·subst h1
   rw [rounds_succ]
   go_wp2
   go_region
   go_wp2
   by_cases h2:c=r
   ·subst h2
    rw [rounds_succ]
    go_wp2
    go_region
    go_wp2
    by_cases h3:d=s
    ·subst h3
     rw [rounds_succ]
     go_wp2
     go_region
     go_wp2
     rw [rounds_succ]
     go_wp2
     have e:=HV.out
     simp at e
     subst e
     exact bodyPost_ret (v:= .bool false) (by first|(simp only [results,Tryz.results270];go_simp;done)|simp [results,Tryz.results270,go_sem, *]) rfl ⟨rfl,bv⟩
    ·have e:=HV.out
     simp only [if_true,if_neg h3] at e
     rw [rounds_succ]
     go_wp2
     go_region
     go_wp2
     subst e
     go_region
     go_wp2
     exact bodyPost_ret (v:= .bool (decide (d<s))) (by first|(simp only [results,Tryz.results270];go_simp;done)|simp [results,Tryz.results270,go_sem, *]) rfl ⟨rfl,bv⟩
   ·have e:=HV.out
    simp only [if_true,if_neg h2] at e
    rw [rounds_succ]
    go_wp2
    go_region
    go_wp2
    subst e
    go_region
    go_wp2
    exact bodyPost_ret (v:= .bool (decide (c<r))) (by first|(simp only [results,Tryz.results270];go_simp;done)|simp [results,Tryz.results270,go_sem, *]) rfl ⟨rfl,bv⟩
  ·have e:=HV.out
   simp only [if_true,if_neg h1] at e
   rw [rounds_succ]
   go_wp2
   go_region
   go_wp2
   subst e
   go_region
   go_wp2
   exact bodyPost_ret (v:= .bool (decide (b<q))) (by first|(simp only [results,Tryz.results270];go_simp;done)|simp [results,Tryz.results270,go_sem, *]) rfl ⟨rfl,bv⟩
 ·have e:=HV.out
  simp only [if_neg h0] at e
  rw [rounds_succ]
  go_wp2
  go_region
  go_wp2
  subst e
  go_region
  go_wp2
  exact bodyPost_ret (v:= .bool (decide (a<p))) (by first|(simp only [results,Tryz.results270];go_simp;done)|simp [results,Tryz.results270,go_sem, *]) rfl ⟨rfl,bv⟩
theorem LW (A B:Int) (w:World) (a0:0<=A) (a1:A<o6) (b0:0<=B) (b1:B<o6):
  Calls Tryz.prog 270 #[cJ A,cJ B] w fun e w'=>e= .returned (.bool (decide (A<B)))/\Below w.heap.size w w':=by
 obtain ⟨a,b,c,d,ha,hb,hc,hd,eA,nA⟩:=x9 A a0 a1
 obtain ⟨p,q,r,s,hp,hq,hr,hs,eB,nB⟩:=x9 B b0 b1
 rw [nA,nB]
 refine FG a b c d p q r s _ w ?_
 rw [eA,eB]
 unfold v7 at*
 unfold nv
 by_cases h0:a=p
 ·subst h0
  by_cases h1:b=q
  ·subst h1
   by_cases h2:c=r
   ·subst h2
    by_cases h3:d=s
    ·subst h3;simp
    ·simp only [if_true,if_neg h3,decide_eq_decide];omega
   ·simp only [if_true,if_neg h2,decide_eq_decide];omega
  ·simp only [if_true,if_neg h1,decide_eq_decide];omega
 ·simp only [if_neg h0,decide_eq_decide];omega
theorem TA:cJ eW= .agg #[.int .u64 3,.int .u64 2611923443488327891,.int .u64 1376283091369227076,.int .u64 11820040416388919760]:=
 Z8 3 2611923443488327891 1376283091369227076 11820040416388919760 (by unfold v7;omega) (by unfold v7;omega) (by unfold v7;omega) (by unfold v7;omega)
theorem a1n (w:World):Calls Tryz.prog 305 #[] w fun e w'=>e= .returned (cJ eW)/\Below w.heap.size w w':=by
 rw [TA]
 go_enter Tryz.func305,Tryz.ntmps305
 go_wp2
 exact bodyPost_ret (v:= .agg #[.int .u64 3,.int .u64 2611923443488327891,.int .u64 1376283091369227076,.int .u64 11820040416388919760]) (by first|(simp only [results,Tryz.results305];go_simp;done)|simp [results,Tryz.results305,go_sem, *]) rfl ⟨rfl,bv⟩
theorem ZJ:cJ x6= .agg #[.int .u64 1,.int .u64 0,.int .u64 0,.int .u64 0]:=
 Z8 1 0 0 0 (by unfold v7;omega) (by unfold v7;omega) (by unfold v7;omega) (by unfold v7;omega)
theorem SP:cJ 0= .agg #[.int .u64 0,.int .u64 0,.int .u64 0,.int .u64 0]:=
 Z8 0 0 0 0 (by unfold v7;omega) (by unfold v7;omega) (by unfold v7;omega) (by unfold v7;omega)
theorem a05:(Tryz.prog.info? 168).isSome=true:=by kernel_rfl
theorem PJ:Tryz.prog.cellsOf 168=1:=by kernel_rfl
set_option maxRecDepth 100000 in
theorem TB (e:Nat) (a b c d p q r s:Int) (w:World):(Op.equalIn (e+1+1) 271 (.agg #[.int .u64 a,.int .u64 b,.int .u64 c,.int .u64 d]) (.agg #[.int .u64 p,.int .u64 q,.int .u64 r,.int .u64 s])).run Tryz.prog w= .ok (decide (a=p/\b=q/\c=r/\d=s)) w:=by
 obtain ⟨i,hi⟩:=Option.isSome_iff_exists.1 a05
 rw [run_equalIn_array w (e+1) _ _ Tryz.underlying271 hi,PJ]
 have hr:List.range 4=[0,1,2,3]:=rfl
 rw [hr]
 simp only [Op.eqItems]
 have p0:∀(x y z u:Value) (w:World),(part 168 #[x,y,z,u] 0).run Tryz.prog w= .ok x w:=fun _ _ _ _ _=>by kernel_rfl
 have p1:∀(x y z u:Value) (w:World),(part 168 #[x,y,z,u] 1).run Tryz.prog w= .ok y w:=fun _ _ _ _ _=>by kernel_rfl
 have p2:∀(x y z u:Value) (w:World),(part 168 #[x,y,z,u] 2).run Tryz.prog w= .ok z w:=fun _ _ _ _ _=>by kernel_rfl
 have p3:∀(x y z u:Value) (w:World),(part 168 #[x,y,z,u] 3).run Tryz.prog w= .ok u w:=fun _ _ _ _ _=>by kernel_rfl
 have hq:∀(x y:Int) (w:World),(Op.equalIn (e+1) 168 (.int .u64 x) (.int .u64 y)).run Tryz.prog w= .ok (x==y) w:=fun x y w=>run_equalIn_int w e _ _ _ x y Tryz.underlying168
 simp only [Nat.mul_one,Sem.run_bind,p0,hq,Result.andThen_ok]
 by_cases h0:a=p
 ·by_cases h1:b=q
  ·by_cases h2:c=r
   ·by_cases h3:d=s
    ·simp [h0,h1,h2,h3,p1,p2,p3,hq]
    ·simp [h0,h1,h2,h3,p1,p2,p3,hq]
   ·simp [h0,h1,h2,p1,p2,p3,hq]
  ·simp [h0,h1,p1,p2,p3,hq]
 ·simp [h0]
def wds (A a b c d:Int):Prop:=cJ A= .agg #[.int .u64 a,.int .u64 b,.int .u64 c,.int .u64 d]
theorem C9 {A a b c d:Int} (h:wds A a b c d):cJ A= .agg #[.int .u64 a,.int .u64 b,.int .u64 c,.int .u64 d]:=h
theorem WV {sq term n:Int} (s0:0<=sq) (s1:sq<=x6) (t0:0<=term) (t1:term<=x6) (_n0:0<=n):0<=term*sq/x6/\term*sq/x6<=x6:=by
 have hW:=N8
 refine ⟨Int.ediv_nonneg (Int.mul_nonneg t0 s0) (Int.le_of_lt hW),Int.ediv_le_of_le_mul hW ?_⟩
 exact Int.mul_le_mul t1 s1 s0 (Int.le_of_lt hW)
theorem ZO {k:Nat} {sq sum n:Int} {m:Bool}:dV k sq sum 0 n m=sum:=by
 cases k with
 |zero=>rfl
 |succ k=>unfold dV;rw [if_pos rfl]
theorem O6 (A:Int) (h0:0<=A) (h1:A<o6):∃a b c d,wds A a b c d/\(A=0↔a=0/\b=0/\c=0/\d=0):=by
 obtain ⟨a,b,c,d,ha,hb,hc,hd,e,n⟩:=x9 A h0 h1
 refine ⟨a,b,c,d,n,?_⟩
 rw [e]
 unfold v7 at*
 unfold nv
 omega
set_option maxRecDepth 100000 in
set_option maxHeartbeats 8000000 in
theorem pY (f sq n0:Int) (w:World) (f0:0<=f) (f1:f<=x6) (s0:0<=sq) (s1:sq<=x6) (h0:0<=n0) (h1:n0<=1):
  Calls Tryz.prog 308 #[cJ f,cJ sq,.int .u64 n0] w fun e w'=>e= .returned (cJ (dV 200 sq f f n0 true))/\Below w.heap.size w w':=by
 have hW:=fD
 obtain ⟨V,hV⟩:∃V,dV 200 sq f f n0 true=V:=⟨_,rfl⟩
 rw [hV]
 have HV:=b6 hV
 have O0:X8 f f f true:=by unfold X8;simp;omega
 have ON:=b6 O0
 obtain ⟨a0,a1,a2,a3,WF,-⟩:=O6 f f0 (by omega)
 obtain ⟨q0,q1,q2,q3,WQ,-⟩:=O6 sq s0 (by omega)
 have HWF:=b6 WF
 have HWQ:=b6 WQ
 unfold wds at WF WQ
 rw [WF,WQ]
 have HF:=b6 (And.intro f0 (And.intro f1 (And.intro s0 (And.intro s1 hW))))
 clear hV f0 f1 s0 s1 hW O0 WF WQ
 go_enter Tryz.func308,Tryz.ntmps308
 go_upto_region 1 with fail
 refine m9 ?_
 intro w' hb
 replace hb:=mU;obtain ⟨hcell,hfroz,hz,_⟩:=mB
 have hw0:Below w.heap.size w w':=bv
 have p0:=A7 w' w.heap.size 0 a0
 have p1:=A7 w' w.heap.size 1 a1
 have p2:=A7 w' w.heap.size 2 a2
 have p3:=A7 w' w.heap.size 3 a3
 have e0:=A7 w' (w.heap.size+1) 0 q0
 have e1:=A7 w' (w.heap.size+1) 1 q1
 have e2:=A7 w' (w.heap.size+1) 2 q2
 have e3:=A7 w' (w.heap.size+1) 3 q3
 have r0:=A7 w' (w.heap.size+1+1) 0 0
 have r1:=A7 w' (w.heap.size+1+1) 1 0
 have r2:=A7 w' (w.heap.size+1+1) 2 0
 have r3:=A7 w' (w.heap.size+1+1) 3 0
 have rf:∀o,w'.frozen? ⟨w.heap.size+1+1,o,none⟩=false:=by intro o;simp [go_sem, *]
 clear hcell hfroz hz hb
 obtain ⟨V0,rfl⟩:=nm w'
 have g2:w.heap.size+1+1<V0.heap.size:=World.block_lt_of_cell? _ _ r0
 have g1:w.heap.size+1<V0.heap.size:=by omega
 have g0:w.heap.size<V0.heap.size:=by omega
 go_cut [7,8] from 10 to 12 (fun s7 s8 wx=>∃B1 B2:Nat,s7= .pointer (some ⟨B1,0,none⟩)/\s8= .pointer (some ⟨B2,0,none⟩)/\V0.heap.size<=B1/\V0.heap.size<=B2/\B1≠B2/\wx.cell? ⟨B1,0,none⟩=some (.int .u64 a0)/\wx.cell? ⟨B1,1,none⟩=some (.int .u64 a1)/\wx.cell? ⟨B1,2,none⟩=some (.int .u64 a2)/\wx.cell? ⟨B1,3,none⟩=some (.int .u64 a3)/\wx.cell? ⟨B2,0,none⟩=some (.int .u64 a0)/\wx.cell? ⟨B2,1,none⟩=some (.int .u64 a1)/\wx.cell? ⟨B2,2,none⟩=some (.int .u64 a2)/\wx.cell? ⟨B2,3,none⟩=some (.int .u64 a3)/\Hid (∀o,wx.frozen? ⟨B1,o,none⟩=false)/\Hid (∀o,wx.frozen? ⟨B2,o,none⟩=false)/\Below V0.heap.size V0 wx)
 case first=>
  go_region
  all_goals go_wp2
  all_goals go_meet
  all_goals exact ⟨_,_,rfl,rfl,by omega,by omega,by omega,by simp [go_sem],by simp [go_sem],by simp [go_sem],by simp [go_sem],by simp [go_sem],by simp [go_sem],by simp [go_sem],by simp [go_sem],by intro o;simp [go_sem],by intro o;simp [go_sem],bw⟩
 case rest=>
  obtain ⟨B1,B2,rfl,rfl,l7,l8,n78,x0,x1,x2,x3,y0,y1,y2,y3,f7,f8,hX⟩:=hcut
  have E0:=cell_later hX e0
  have E1:=cell_later hX e1
  have E2:=cell_later hX e2
  have E3:=cell_later hX e3
  have R0:=cell_later hX r0
  have R1:=cell_later hX r1
  have R2:=cell_later hX r2
  have R3:=cell_later hX r3
  have RF:=b6 (fun o=>(hX.frozen (p:=⟨w.heap.size+1+1,o,none⟩) g2).trans (rf o):∀o,wc.frozen? ⟨w.heap.size+1+1,o,none⟩=false)
  have hb1:B1<wc.heap.size:=World.block_lt_of_cell? _ _ x0
  have hb2:B2<wc.heap.size:=World.block_lt_of_cell? _ _ y0
  have nn0:w.heap.size+1+1<B1:=by omega
  have nn1:w.heap.size+1+1<B2:=by omega
  have HB:=b6 (And.intro hb1 hb2)
  clear e0 e1 e2 e3 r0 r1 r2 r3 rf p0 p1 p2 p3 l7 l8 hb1 hb2
  go_wp2
  go_loopw [2,9] (fun nv mv wr=>∃(k:Nat) (n S T s0 s1 s2 s3 t0 t1 t2 t3:Int) (m:Bool),nv= .int .u64 n/\mv= .bool m/\Hid (wds S s0 s1 s2 s3)/\Hid (wds T t0 t1 t2 t3)/\Hid (dV k sq S T n m=V)/\Hid (X8 f S T m)/\Hid (T<2^k)/\0<=n/\n+2*(k:Int)<=401/\wr.cell? ⟨B1,0,none⟩=some (.int .u64 s0)/\wr.cell? ⟨B1,1,none⟩=some (.int .u64 s1)/\wr.cell? ⟨B1,2,none⟩=some (.int .u64 s2)/\wr.cell? ⟨B1,3,none⟩=some (.int .u64 s3)/\wr.cell? ⟨B2,0,none⟩=some (.int .u64 t0)/\wr.cell? ⟨B2,1,none⟩=some (.int .u64 t1)/\wr.cell? ⟨B2,2,none⟩=some (.int .u64 t2)/\wr.cell? ⟨B2,3,none⟩=some (.int .u64 t3)/\wr.cell? ⟨w.heap.size+1,0,none⟩=some (.int .u64 q0)/\wr.cell? ⟨w.heap.size+1,1,none⟩=some (.int .u64 q1)/\wr.cell? ⟨w.heap.size+1,2,none⟩=some (.int .u64 q2)/\wr.cell? ⟨w.heap.size+1,3,none⟩=some (.int .u64 q3)/\wr.cell? ⟨w.heap.size+1+1,0,none⟩=some (.int .u64 0)/\wr.cell? ⟨w.heap.size+1+1,1,none⟩=some (.int .u64 0)/\wr.cell? ⟨w.heap.size+1+1,2,none⟩=some (.int .u64 0)/\wr.cell? ⟨w.heap.size+1+1,3,none⟩=some (.int .u64 0)/\Hid (∀o,wr.frozen? ⟨B1,o,none⟩=false)/\Hid (∀o,wr.frozen? ⟨B2,o,none⟩=false)/\Hid (∀o,wr.frozen? ⟨w.heap.size+1+1,o,none⟩=false)/\wc.heap.size<=wr.heap.size/\Below w.heap.size w wr) (fun nv _ _=>(1000-(intOf nv)).toNat)
  case atStart=>exact ⟨200,n0,f,f,a0,a1,a2,a3,a0,a1,a2,a3,true,rfl,rfl,HWF,HWF,HV,ON,by unfold Hid;have:=HF.out.2.1;unfold x6 G9 at this;omega,h0,by omega,x0,x1,x2,x3,y0,y1,y2,y3,E0,E1,E2,E3,R0,R1,R2,R3,f7,f8,RF,Nat.le_refl _,o5 hX hw0⟩
  case round=>
   obtain ⟨k,n,S,T,s0,s1,s2,s3,t0,t1,t2,t3,m,rfl,rfl,hS,hT,hs,hok,hk,n0',n1',c0,c1,c2,c3,d0,d1,d2,d3,i0,i1,i2,i3,j0,j1,j2,j3,fz1,fz2,fz3,hzz,hY⟩:=hrel
   clear x0 x1 x2 x3 y0 y1 y2 y3 E0 E1 E2 E3 R0 R1 R2 R3 RF f7 f8 hX
   have hB1:B1<wr.heap.size:=World.block_lt_of_cell? _ _ c0
   have hB2:B2<wr.heap.size:=World.block_lt_of_cell? _ _ d0
   have hR:w.heap.size+1+1<wr.heap.size:=World.block_lt_of_cell? _ _ j0
   have hR1:w.heap.size+1<wr.heap.size:=by omega
   have n87:B2≠B1:=fun e=>n78 e.symm
   have m81:w.heap.size+1≠B1:=by omega
   have m82:w.heap.size+1≠B2:=by omega
   have m91:w.heap.size+1+1≠B1:=by omega
   have m92:w.heap.size+1+1≠B2:=by omega
   have u1:=fz1.out
   have u2:=fz2.out
   have u3:=fz3.out
   by_cases hT0:T=0
   ·have z:t0=0/\t1=0/\t2=0/\t3=0:=by
     have h:=hT.out
     unfold wds at h
     rw [hT0,SP] at h
     simp at h
     omega
    obtain ⟨rfl,rfl,rfl,rfl⟩:=z
    have e:=hs.out
    rw [hT0,ZO] at e
    have E:=b6 (C9 hS.out)
    rw [e] at E
    clear hS hT hs hok hk e hT0
    have eqz:∀w,(Op.equalIn 10000 271 (.agg #[.int .u64 0,.int .u64 0,.int .u64 0,.int .u64 0]) (.agg #[.int .u64 0,.int .u64 0,.int .u64 0,.int .u64 0])).run Tryz.prog w= .ok true w:=fun w=>by rw [TB 9998];simp
    go_wp2
    exact bodyPost_ret (v:= .agg #[.int .u64 s0,.int .u64 s1,.int .u64 s2,.int .u64 s3]) (by first|(simp only [results,Tryz.results308];go_simp;done)|simp [results,Tryz.results308,go_sem, *]) rfl ⟨by rw [E.out],bw⟩
   ·obtain ⟨f0,f1,q0',q1',hW⟩:=HF.out
    have k1:∃k2,k=k2+1:=by
     cases k with
     |zero=>have h1:=hk.out;have h2:=hok.out;unfold X8 at h2;simp at h1;omega
     |succ k=>exact ⟨k,rfl⟩
    obtain ⟨k2,rfl⟩:=k1
    have o1:=hok.out
    have o2:=pZ f1 q0' q1' n0' o1
    have ob:=o1
    unfold X8 at ob
    have nb:=uE q0' q1' ob.1 (by omega:T<=x6) n0'
    have mb:=WV q0' q1' ob.1 (by omega:T<=x6) n0'
    have hs2:=hs.out
    unfold dV at hs2
    rw [if_neg hT0] at hs2
    have hk2:=hk.out
    rw [show (2:Int)^(k2+1)=2^k2*2 from Int.pow_succ _ _] at hk2
    obtain ⟨D,hD⟩:∃D,(n+1)*(n+2)=D:=⟨_,rfl⟩
    have D0:0<D:=by rw [<-hD];exact Int.mul_pos (by omega) (by omega)
    have D1:D<=1000000:=by rw [<-hD];have:=Int.mul_le_mul (show n+1<=1000 by omega) (show n+2<=1000 by omega) (by omega) (by omega);omega
    have eN:dG sq T n=T*sq/x6%o6/D:=by unfold dG;rw [hD]
    obtain ⟨X,hX1⟩:∃X,T*sq/x6%o6=X:=⟨_,rfl⟩
    have M0:=fun w=>AI T sq w ob.1 (by omega) q0' (by omega)
    rw [hX1] at M0
    have X0:0<=X/\X<o6:=by rw [<-hX1];exact ⟨Int.emod_nonneg _ (by omega),Int.emod_lt_of_pos _ (by omega)⟩
    have O0:=fun w=>sX X D w X0.1 X0.2 D0 (by omega)
    rw [hX1] at eN
    rw [<-eN] at O0
    have kw1:IntKind.u64.wrap (n+1)=n+1:=by rw [IntKind.wrap_u64];omega
    have kw2:IntKind.u64.wrap (n+2)=n+2:=by rw [IntKind.wrap_u64];omega
    have kw3:IntKind.u64.wrap ((n+1)*(n+2))=D:=by rw [hD,IntKind.wrap_u64];omega
    obtain ⟨Y,hY1⟩:∃Y,dG sq T n=Y:=⟨_,rfl⟩
    rw [hY1] at O0 nb o2 hs2
    obtain ⟨v0,v1,v2,v3,WX,-⟩:=O6 X X0.1 X0.2
    obtain ⟨y0',y1',y2',y3',WY,-⟩:=O6 Y nb.1 (by omega)
    have nz:¬(t0=0/\t1=0/\t2=0/\t3=0):=by
     intro ⟨e0,e1,e2,e3⟩
     have h:=hT.out
     unfold wds at h
     obtain ⟨b0,b1,b2,b3,wb,bz⟩:=O6 T ob.1 (by omega)
     rw [C9 wb] at h
     simp at h
     exact hT0 (bz.2 (by omega))
    have eqz:∀w,(Op.equalIn 10000 271 (.agg #[.int .u64 t0,.int .u64 t1,.int .u64 t2,.int .u64 t3]) (.agg #[.int .u64 0,.int .u64 0,.int .u64 0,.int .u64 0])).run Tryz.prog w= .ok false w:=fun w=>by rw [TB 9998];simp only [nz,decide_false]
    have hM:CB 307 #[.agg #[.int .u64 t0,.int .u64 t1,.int .u64 t2,.int .u64 t3],.agg #[.int .u64 q0,.int .u64 q1,.int .u64 q2,.int .u64 q3]] (.agg #[.int .u64 v0,.int .u64 v1,.int .u64 v2,.int .u64 v3]):=b6 fun w=>by have h:=M0 w;rw [C9 hT.out,C9 HWQ.out,C9 WX] at h;exact h
    have hO:CB 306 #[.agg #[.int .u64 v0,.int .u64 v1,.int .u64 v2,.int .u64 v3],.int .u64 D] (.agg #[.int .u64 y0',.int .u64 y1',.int .u64 y2',.int .u64 y3']):=b6 fun w=>by have h:=O0 w;rw [C9 WX,C9 WY] at h;exact h
    cases m
    ·simp only [Bool.false_eq_true,if_false,Bool.not_false] at o2 hs2
     obtain ⟨Z,hZ⟩:∃Z,(S+Y)%o6=Z:=⟨_,rfl⟩
     rw [hZ] at o2 hs2
     have zb:=o2
     unfold X8 at zb
     obtain ⟨z0',z1',z2',z3',WZ,-⟩:=O6 Z zb.2.2.1 (by omega)
     have hA:CB 342 #[.agg #[.int .u64 s0,.int .u64 s1,.int .u64 s2,.int .u64 s3],.agg #[.int .u64 y0',.int .u64 y1',.int .u64 y2',.int .u64 y3']] (.agg #[.int .u64 z0',.int .u64 z1',.int .u64 z2',.int .u64 z3']):=b6 fun w=>by have h:=PM S Y w ob.2.2.1 (by omega) nb.1 (by omega);rw [hZ,C9 hS.out,C9 WY,C9 WZ] at h;exact h
     have HFIN:=b6 (And.intro WY (And.intro WZ (And.intro hs2 (And.intro o2 (show Y<2^k2 by omega)))))
     clear hS hT hs hok hk hk2 hs2 o1 o2 ob nb mb zb M0 O0 eN WX WY WZ hX1 hY1 hZ X0 f0 f1 q0' q1' hW hT0 D0 D1 hD nz
     go_wp2_with (first|(go_at_call 307;((with_reducible refine am (hM.out _) ?_);intro w' hb);replace hb:=mU;obtain ⟨hcell,hfroz,hz,_⟩:=mB;(try have hB1:B1<w'.heap.size:=by omega);(try have hB2:B2<w'.heap.size:=by omega);(try have hB3:B1<w'.heap.size+1:=by omega);(try have hB4:B2<w'.heap.size+1:=by omega);(have hR:w.heap.size+1+1<w'.heap.size:=by omega);(have hR1:w.heap.size+1<w'.heap.size:=by omega);obtain ⟨w2,rfl⟩:=nm w')|(go_at_call 306;((with_reducible refine am (hO.out _) ?_);intro w' hb);replace hb:=mU;obtain ⟨hcell,hfroz,hz,_⟩:=mB;(try have hB1:B1<w'.heap.size:=by omega);(try have hB2:B2<w'.heap.size:=by omega);(try have hB3:B1<w'.heap.size+1:=by omega);(try have hB4:B2<w'.heap.size+1:=by omega);(have hR:w.heap.size+1+1<w'.heap.size:=by omega);(have hR1:w.heap.size+1<w'.heap.size:=by omega);obtain ⟨w3,rfl⟩:=nm w')|(go_at_call 342;((with_reducible refine am (hA.out _) ?_);intro w' hb);replace hb:=mU;obtain ⟨hcell,hfroz,hz,_⟩:=mB;(try have hB1:B1<w'.heap.size:=by omega);(try have hB2:B2<w'.heap.size:=by omega);(try have hB3:B1<w'.heap.size+1:=by omega);(try have hB4:B2<w'.heap.size+1:=by omega);(have hR:w.heap.size+1+1<w'.heap.size:=by omega);(have hR1:w.heap.size+1<w'.heap.size:=by omega);obtain ⟨w4,rfl⟩:=nm w'))
     obtain ⟨fy,fzz,fs,fo,fl⟩:=HFIN.out
     exact ⟨⟨k2,n+2,Z,Y,z0',z1',z2',z3',y0',y1',y2',y3',true,rfl,rfl,fzz,fy,fs,fo,fl,by omega,by omega,by simp [go_sem, *],by simp [go_sem, *],by simp [go_sem, *],by simp [go_sem, *],by simp [go_sem, *],by simp [go_sem, *],by simp [go_sem, *],by simp [go_sem, *],by simp [go_sem, *],by simp [go_sem, *],by simp [go_sem, *],by simp [go_sem, *],by simp [go_sem, *],by simp [go_sem, *],by simp [go_sem, *],by simp [go_sem, *],by intro o;simp [go_sem, *],by intro o;simp [go_sem, *],by intro o;simp [go_sem, *],by simp;omega,bw⟩,by simp [intOf];omega⟩
    ·simp only [if_true,Bool.not_true] at o2 hs2
     obtain ⟨Z,hZ⟩:∃Z,(S-Y)%o6=Z:=⟨_,rfl⟩
     rw [hZ] at o2 hs2
     have zb:=o2
     unfold X8 at zb
     obtain ⟨z0',z1',z2',z3',WZ,-⟩:=O6 Z zb.2.2.1 (by omega)
     have hA:CB 341 #[.agg #[.int .u64 s0,.int .u64 s1,.int .u64 s2,.int .u64 s3],.agg #[.int .u64 y0',.int .u64 y1',.int .u64 y2',.int .u64 y3']] (.agg #[.int .u64 z0',.int .u64 z1',.int .u64 z2',.int .u64 z3']):=b6 fun w=>by have h:=VQ S Y w ob.2.2.1 (by omega) nb.1 (by omega);rw [hZ,C9 hS.out,C9 WY,C9 WZ] at h;exact h
     have HFIN:=b6 (And.intro WY (And.intro WZ (And.intro hs2 (And.intro o2 (show Y<2^k2 by omega)))))
     clear hS hT hs hok hk hk2 hs2 o1 o2 ob nb mb zb M0 O0 eN WX WY WZ hX1 hY1 hZ X0 f0 f1 q0' q1' hW hT0 D0 D1 hD nz
     go_wp2_with (first|(go_at_call 307;((with_reducible refine am (hM.out _) ?_);intro w' hb);replace hb:=mU;obtain ⟨hcell,hfroz,hz,_⟩:=mB;(try have hB1:B1<w'.heap.size:=by omega);(try have hB2:B2<w'.heap.size:=by omega);(try have hB3:B1<w'.heap.size+1:=by omega);(try have hB4:B2<w'.heap.size+1:=by omega);(have hR:w.heap.size+1+1<w'.heap.size:=by omega);(have hR1:w.heap.size+1<w'.heap.size:=by omega);obtain ⟨w2,rfl⟩:=nm w')|(go_at_call 306;((with_reducible refine am (hO.out _) ?_);intro w' hb);replace hb:=mU;obtain ⟨hcell,hfroz,hz,_⟩:=mB;(try have hB1:B1<w'.heap.size:=by omega);(try have hB2:B2<w'.heap.size:=by omega);(try have hB3:B1<w'.heap.size+1:=by omega);(try have hB4:B2<w'.heap.size+1:=by omega);(have hR:w.heap.size+1+1<w'.heap.size:=by omega);(have hR1:w.heap.size+1<w'.heap.size:=by omega);obtain ⟨w3,rfl⟩:=nm w')|(go_at_call 341;((with_reducible refine am (hA.out _) ?_);intro w' hb);replace hb:=mU;obtain ⟨hcell,hfroz,hz,_⟩:=mB;(try have hB1:B1<w'.heap.size:=by omega);(try have hB2:B2<w'.heap.size:=by omega);(try have hB3:B1<w'.heap.size+1:=by omega);(try have hB4:B2<w'.heap.size+1:=by omega);(have hR:w.heap.size+1+1<w'.heap.size:=by omega);(have hR1:w.heap.size+1<w'.heap.size:=by omega);obtain ⟨w4,rfl⟩:=nm w'))
     obtain ⟨fy,fzz,fs,fo,fl⟩:=HFIN.out
     exact ⟨⟨k2,n+2,Z,Y,z0',z1',z2',z3',y0',y1',y2',y3',false,rfl,rfl,fzz,fy,fs,fo,fl,by omega,by omega,by simp [go_sem, *],by simp [go_sem, *],by simp [go_sem, *],by simp [go_sem, *],by simp [go_sem, *],by simp [go_sem, *],by simp [go_sem, *],by simp [go_sem, *],by simp [go_sem, *],by simp [go_sem, *],by simp [go_sem, *],by simp [go_sem, *],by simp [go_sem, *],by simp [go_sem, *],by simp [go_sem, *],by simp [go_sem, *],by intro o;simp [go_sem, *],by intro o;simp [go_sem, *],by intro o;simp [go_sem, *],by simp;omega,bw⟩,by simp [intOf];omega⟩
end Go.Proofs.YtdhbeoahpfimbaaGreat
