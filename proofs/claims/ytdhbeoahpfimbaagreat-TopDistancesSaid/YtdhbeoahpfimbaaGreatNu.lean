/- Part of the proof of TopDistances. -/
import Derived.Test.YtdhbeoahpfimbaaGreatDv
import Derived.LoopN
import Derived.BigRegion
namespace Go.Proofs.YtdhbeoahpfimbaaGreat
open Go.RowKit
theorem W6 (x y c:Int) (x0:0<=x) (y0:0<=y) (c0:0<=c) (c1:c<=1) (w:World):
  (callFunc 309 #[.int .u64 x,.int .u64 y,.int .u64 c]).run Tryz.prog w= .ok (.value (.tuple #[.int .u64 ((x+y+c)%18446744073709551616),.int .u64 ((x+y+c)/18446744073709551616)])) w:=by
 obtain ⟨X,rfl⟩:=Int.eq_ofNat_of_zero_le x0
 obtain ⟨Y,rfl⟩:=Int.eq_ofNat_of_zero_le y0
 obtain ⟨C,rfl⟩:=Int.eq_ofNat_of_zero_le c0
 have h:=Any7.bits_Add64 Tryz.lays7_25 X Y C (by omega) w
 have e1:(((X+Y+C)%18446744073709551616:Nat):Int)=((X:Int)+Y+C)%18446744073709551616:=by omega
 have e2:(((X+Y+C)/18446744073709551616:Nat):Int)=((X:Int)+Y+C)/18446744073709551616:=by omega
 rw [e1,e2] at h
 exact h
theorem MT (x y b:Int) (x0:0<=x) (y0:0<=y) (y1:y<=18446744073709551615) (b0:0<=b) (b1:b<=1) (w:World):
  (callFunc 344 #[.int .u64 x,.int .u64 y,.int .u64 b]).run Tryz.prog w= .ok (.value (.tuple #[.int .u64 ((x-y-b)%18446744073709551616),.int .u64 (if x<y+b then 1 else 0)])) w:=by
 obtain ⟨X,rfl⟩:=Int.eq_ofNat_of_zero_le x0
 obtain ⟨Y,rfl⟩:=Int.eq_ofNat_of_zero_le y0
 obtain ⟨B,rfl⟩:=Int.eq_ofNat_of_zero_le b0
 have h:=Any7.bits_Sub64 Tryz.lays7_26 X Y B (by omega) w
 have e1:(((X+18446744073709551616-Y-B)%18446744073709551616:Nat):Int)=((X:Int)-Y-B)%18446744073709551616:=by omega
 have e2:((if X<Y+B then 1 else 0:Nat):Int)=if (X:Int)<Y+B then 1 else 0:=by
  by_cases g:X<Y+B
  ·rw [if_pos g,if_pos (by omega)];rfl
  ·rw [if_neg g,if_neg (by omega)];rfl
 rw [e1,e2] at h
 exact h
set_option maxHeartbeats 2000000 in
theorem NR (a0 a1 a2 a3 b0 b1 b2 b3 d0 d1 d2 d3 o0 o1 o2 o3:Int) (w:World)
  (h3:∀w,(callFunc 344 #[.int .u64 a3,.int .u64 b3,.int .u64 0]).run Tryz.prog w= .ok (.value (.tuple #[.int .u64 d3,.int .u64 o3])) w)
  (h2:∀w,(callFunc 344 #[.int .u64 a2,.int .u64 b2,.int .u64 o3]).run Tryz.prog w= .ok (.value (.tuple #[.int .u64 d2,.int .u64 o2])) w)
  (h1:∀w,(callFunc 344 #[.int .u64 a1,.int .u64 b1,.int .u64 o2]).run Tryz.prog w= .ok (.value (.tuple #[.int .u64 d1,.int .u64 o1])) w)
  (h0:∀w,(callFunc 344 #[.int .u64 a0,.int .u64 b0,.int .u64 o1]).run Tryz.prog w= .ok (.value (.tuple #[.int .u64 d0,.int .u64 o0])) w):
  Calls Tryz.prog 338 #[.agg #[.int .u64 a0,.int .u64 a1,.int .u64 a2,.int .u64 a3],.agg #[.int .u64 b0,.int .u64 b1,.int .u64 b2,.int .u64 b3]] w fun e w'=>e= .returned (.agg #[.int .u64 d0,.int .u64 d1,.int .u64 d2,.int .u64 d3])/\Below w.heap.size w w':=by
 go_enter Tryz.func338,Tryz.ntmps338
 go_wp2
 refine wp_loop_rounds 5 ?_
 rw [rounds_succ]
 go_wp2
 go_region
 go_wp2
 rw [rounds_succ]
 go_wp2
 go_region
 go_wp2
 rw [rounds_succ]
 go_wp2
 go_region
 go_wp2
 rw [rounds_succ]
 go_wp2
 go_region
 go_wp2
 rw [rounds_succ]
 go_wp2
 exact bodyPost_ret (v:= .agg #[.int .u64 d0,.int .u64 d1,.int .u64 d2,.int .u64 d3]) (by first|(simp only [results,Tryz.results338];go_simp;done)|simp [results,Tryz.results338,go_sem, *]) rfl ⟨rfl,bv⟩
theorem yP (hi lo y:Int) (w:World) (h0:0<=hi) (h1:hi<y) (h2:y<=18446744073709551615) (h3:0<=lo) (h4:lo<=18446744073709551615):
  Calls Tryz.prog 110 #[.int .u64 hi,.int .u64 lo,.int .u64 y] w fun e w'=>e= .returned (.tuple #[.int .u64 ((hi*18446744073709551616+lo)/y),.int .u64 ((hi*18446744073709551616+lo)%y)])/\Below w.heap.size w w':=
 (F3 hi lo y w h0 h1 h2 h3 h4).mono fun _ _ ⟨he,n,hw⟩=>⟨he,by subst hw;exact bv⟩
set_option maxHeartbeats 2000000 in
theorem OD (a0 a1 a2 a3 t d q0 q1 q2 q3 r0 r1 r2 r3:Int) (w:World)
  (h0:CB 110 #[.int .u64 t,.int .u64 a0,.int .u64 d] (.tuple #[.int .u64 q0,.int .u64 r0]))
  (h1:CB 110 #[.int .u64 r0,.int .u64 a1,.int .u64 d] (.tuple #[.int .u64 q1,.int .u64 r1]))
  (h2:CB 110 #[.int .u64 r1,.int .u64 a2,.int .u64 d] (.tuple #[.int .u64 q2,.int .u64 r2]))
  (h3:CB 110 #[.int .u64 r2,.int .u64 a3,.int .u64 d] (.tuple #[.int .u64 q3,.int .u64 r3])):
  Calls Tryz.prog 355 #[.agg #[.int .u64 a0,.int .u64 a1,.int .u64 a2,.int .u64 a3],.int .u64 t,.int .u64 d] w fun e w'=>e= .returned (.agg #[.int .u64 q0,.int .u64 q1,.int .u64 q2,.int .u64 q3])/\Below w.heap.size w w':=by
 go_enter Tryz.func355,Tryz.ntmps355
 go_wp2
 refine wp_loop_rounds 5 ?_
 rw [rounds_succ]
 go_wp2_with (go_at_call 110;((with_reducible refine am (h0.out _) ?_);intro w' hb);replace hb:=mU;obtain ⟨hcell,hfroz,hz,_⟩:=mB)
 rw [rounds_succ]
 go_wp2_with (go_at_call 110;((with_reducible refine am (h1.out _) ?_);intro w' hb);replace hb:=mU;obtain ⟨hcell,hfroz,hz,_⟩:=mB)
 rw [rounds_succ]
 go_wp2_with (go_at_call 110;((with_reducible refine am (h2.out _) ?_);intro w' hb);replace hb:=mU;obtain ⟨hcell,hfroz,hz,_⟩:=mB)
 rw [rounds_succ]
 go_wp2_with (go_at_call 110;((with_reducible refine am (h3.out _) ?_);intro w' hb);replace hb:=mU;obtain ⟨hcell,hfroz,hz,_⟩:=mB)
 rw [rounds_succ]
 go_wp2
 exact bodyPost_ret (v:= .agg #[.int .u64 q0,.int .u64 q1,.int .u64 q2,.int .u64 q3]) (by first|(simp only [results,Tryz.results355];go_simp;done)|simp [results,Tryz.results355,go_sem, *]) rfl ⟨rfl,bv⟩
def nv (a b c d:Int):Int:=((a*18446744073709551616+b)*18446744073709551616+c)*18446744073709551616+d
def G9:Int:=18446744073709551616
def o6:Int:=G9*G9*(G9*G9)
def cJ (A:Int):Value:= .agg #[.int .u64 (A/(G9*G9*G9)),.int .u64 (A/(G9*G9)%G9),.int .u64 (A/G9%G9),.int .u64 (A%G9)]
def v7 (a:Int):Prop:=0<=a/\a<=18446744073709551615
theorem L6 (a b c d:Int) (ha:v7 a) (hb:v7 b) (hc:v7 c) (hd:v7 d):
  nv a b c d/(G9*G9*G9)=a/\nv a b c d/(G9*G9)%G9=b/\nv a b c d/G9%G9=c/\nv a b c d%G9=d/\0<=nv a b c d/\nv a b c d<o6:=by
 unfold v7 at*
 unfold nv G9 o6 G9
 omega
theorem Z8 (a b c d:Int) (ha:v7 a) (hb:v7 b) (hc:v7 c) (hd:v7 d):cJ (nv a b c d)= .agg #[.int .u64 a,.int .u64 b,.int .u64 c,.int .u64 d]:=by
 obtain ⟨h1,h2,h3,h4,_⟩:=L6 a b c d ha hb hc hd
 unfold cJ;rw [h1,h2,h3,h4]
theorem x9 (A:Int) (h0:0<=A) (h1:A<o6):∃a b c d,v7 a/\v7 b/\v7 c/\v7 d/\A=nv a b c d/\cJ A= .agg #[.int .u64 a,.int .u64 b,.int .u64 c,.int .u64 d]:=by
 refine ⟨A/(G9*G9*G9),A/(G9*G9)%G9,A/G9%G9,A%G9,?_,?_,?_,?_,?_,rfl⟩<;>unfold G9 o6 at* <;>(try unfold v7)<;>(try unfold nv)<;>(try unfold G9 at*)<;>omega
theorem N7 (x y b:Int) (hx:v7 x) (hy:v7 y) (hb:0<=b/\b<=1):∃d o,(∀w,(callFunc 344 #[.int .u64 x,.int .u64 y,.int .u64 b]).run Tryz.prog w= .ok (.value (.tuple #[.int .u64 d,.int .u64 o])) w)/\v7 d/\0<=o/\o<=1/\d=x-y-b+o*18446744073709551616:=by
 refine ⟨_,_,fun w=>MT x y b hx.1 hy.1 hy.2 hb.1 hb.2 w,?_⟩
 unfold v7 at*
 split<;>omega
theorem pX (A B:Int) (w:World) (a0:0<=A) (a1:A<o6) (b0:0<=B) (b1:B<o6):
  Calls Tryz.prog 338 #[cJ A,cJ B] w fun e w'=>e= .returned (cJ ((A-B)%o6))/\Below w.heap.size w w':=by
 obtain ⟨a,b,c,d,ha,hb,hc,hd,eA,nA⟩:=x9 A a0 a1
 obtain ⟨p,q,r,s,hp,hq,hr,hs,eB,nB⟩:=x9 B b0 b1
 obtain ⟨d3,o3,f3,w3,l3,u3,e3⟩:=N7 d s 0 hd hs (by omega)
 obtain ⟨d2,o2,f2,w2,l2,u2,e2⟩:=N7 c r o3 hc hr ⟨l3,u3⟩
 obtain ⟨d1,o1,f1,w1,l1,u1,e1⟩:=N7 b q o2 hb hq ⟨l2,u2⟩
 obtain ⟨d0,o0,f0,w0,l0,u0,e0⟩:=N7 a p o1 ha hp ⟨l1,u1⟩
 have h:=NR a b c d p q r s d0 d1 d2 d3 o0 o1 o2 o3 w f3 f2 f1 f0
 rw [nA,nB]
 have e:(A-B)%o6=nv d0 d1 d2 d3:=by
  have k:=L6 d0 d1 d2 d3 w0 w1 w2 w3
  have:A-B=nv d0 d1 d2 d3-o0*o6:=by
   rw [eA,eB];unfold nv o6 G9;omega
  rw [this]
  have k5:=k.2.2.2.2.1
  have k6:=k.2.2.2.2.2
  generalize nv d0 d1 d2 d3=N at*
  unfold o6 G9 at*
  omega
 rw [e,Z8 d0 d1 d2 d3 w0 w1 w2 w3]
 exact h
theorem O4 (t x d:Int) (ht:0<=t/\t<d) (hd:d<=18446744073709551615) (hx:v7 x):∃q r,CB 110 #[.int .u64 t,.int .u64 x,.int .u64 d] (.tuple #[.int .u64 q,.int .u64 r])/\v7 q/\0<=r/\r<d/\q*d+r=t*18446744073709551616+x:=by
 refine ⟨_,_,b6 fun w=>yP t x d w ht.1 ht.2 hd hx.1 hx.2,?_⟩
 unfold v7 at*
 have hd0:0<d:=by omega
 have e:=Int.mul_ediv_add_emod (t*18446744073709551616+x) d
 have r0:=Int.emod_nonneg (t*18446744073709551616+x) (show d≠0 by omega)
 have r1:=Int.emod_lt_of_pos (t*18446744073709551616+x) hd0
 have q0:0<=(t*18446744073709551616+x)/d:=Int.ediv_nonneg (by omega) (by omega)
 have q1:(t*18446744073709551616+x)/d<18446744073709551616:=by
  apply Int.ediv_lt_of_lt_mul hd0
  have:t+1<=d:=by omega
  have:=Int.mul_le_mul_of_nonneg_left this (show (0:Int)<=18446744073709551616 by omega)
  omega
 refine ⟨⟨q0,by omega⟩,r0,r1,?_⟩
 rw [Int.mul_comm];exact e
theorem yC (A t d:Int) (w:World) (a0:0<=A) (a1:A<o6) (t0:0<=t) (t1:t<d) (d1:d<=18446744073709551615):
  Calls Tryz.prog 355 #[cJ A,.int .u64 t,.int .u64 d] w fun e w'=>e= .returned (cJ ((t*o6+A)/d))/\Below w.heap.size w w'/\0<=(t*o6+A)/d/\(t*o6+A)/d<o6:=by
 obtain ⟨a,b,c,e,ha,hb,hc,hd,eA,nA⟩:=x9 A a0 a1
 obtain ⟨q0,r0,f0,w0,l0,u0,e0⟩:=O4 t a d ⟨t0,t1⟩ d1 ha
 obtain ⟨q1,r1,f1,w1,l1,u1,e1⟩:=O4 r0 b d ⟨l0,u0⟩ d1 hb
 obtain ⟨q2,r2,f2,w2,l2,u2,e2⟩:=O4 r1 c d ⟨l1,u1⟩ d1 hc
 obtain ⟨q3,r3,f3,w3,l3,u3,e3⟩:=O4 r2 e d ⟨l2,u2⟩ d1 hd
 have k:=L6 q0 q1 q2 q3 w0 w1 w2 w3
 have key:(t*o6+A)/d=nv q0 q1 q2 q3:=by
  have:t*o6+A=r3+nv q0 q1 q2 q3*d:=by
   rw [eA]
   have x0:nv q0 q1 q2 q3*d=((q0*d*18446744073709551616+q1*d)*18446744073709551616+q2*d)*18446744073709551616+q3*d:=by unfold nv;grind
   rw [x0]
   unfold nv o6 G9
   omega
  rw [this,Int.add_mul_ediv_right _ _ (show d≠0 by omega),Int.ediv_eq_zero_of_lt l3 u3];omega
 rw [key,nA]
 refine (OD a b c e t d q0 q1 q2 q3 r0 r1 r2 r3 w f0 f1 f2 f3).mono fun _ _ ⟨he,hw⟩=>⟨?_,hw,k.2.2.2.2.1,k.2.2.2.2.2⟩
 rw [he,Z8 q0 q1 q2 q3 w0 w1 w2 w3]
end Go.Proofs.YtdhbeoahpfimbaaGreat
