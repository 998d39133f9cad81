/- Part of the proof of TopDistances. -/
import Derived.Test.YtdhbeoahpfimbaaGreatPm
import Derived.Test.YtdhbeoahpfimbaaGreatRhY
import Derived.Test.YtdhbeoahpfimbaaGreatPo
namespace Go.Proofs.YtdhbeoahpfimbaaGreat
open Go.RowKit Rot
theorem vD (z:Int) (h0: -4800000<=z) (h1:z<=4800000):(-200000001<=CE z/\CE z<=CC z/\CC z<=200000001)/\CB 228 #[.int .i64 z] (V3 (CE z,CC z)):=by
 have W:=GF z.natAbs (by omega)
 obtain ⟨⟨w0,w1⟩,W⟩:=W
 unfold CE CC
 generalize wP z.natAbs=x at*
 by_cases e:z=0
 ·rw [if_pos e,if_pos e]
  refine ⟨by omega,?_⟩
  subst e
  exact b6 fun w=>xG x w (b6 W)
 ·rw [if_neg e,if_neg e]
  by_cases g:z<0
  ·rw [if_pos g,if_pos g]
   refine ⟨by omega,?_⟩
   rw [show ((z.natAbs:Nat):Int)= -z by omega] at W
   exact b6 fun w=>xI z x w g (by omega) w0 (by omega) (b6 W)
  ·rw [if_neg g,if_neg g]
   refine ⟨by omega,?_⟩
   rw [show ((z.natAbs:Nat):Int)=z by omega] at W
   exact b6 fun w=>OJ z x w (by omega) (by omega) w0 (by omega) (b6 W)
theorem sT (z:Int) (h0: -4800000<=z) (h1:z<=4800000):CB 157 #[.agg #[.int .i64 z,.int .i64 z]] (V2 (CE z,CC z)):=b6 fun w=>DL z _ _ w (vD z h0 h1).2
theorem rI (n d:Int) (hd:0<d) (h0: -4611686018427387904<=n) (h1:n<=4611686018427387904) (h2:d<=9223372036854775807):CB 158 #[.int .i64 n,.int .i64 d] (.int .i64 (n/d)):=
 b6 fun w=>(GM n d w hd h0 h1 h2).mono fun e w' h=>⟨h.1,by rw [<-h.2];exact Below.refl _ _⟩
theorem VH (la lb:Int) (h1:la.natAbs<=4800000) (h2:lb.natAbs<=4800000):∃ql qh:Int,0<=ql/\ql<=qh/\qh<=1073741824/\
  (VI (min la lb) (max la lb)<=qh\/(0<(lb-la).natAbs/\0<X7 (min la lb) (lb-la).natAbs/\mP (min la lb) (lb-la).natAbs<=qh))/\
  CB 84 #[.int .i64 la,.int .i64 lb] (V3 (ql,qh)):=by
 obtain ⟨A,hA⟩:∃A,min la lb=A:=⟨_,rfl⟩
 obtain ⟨k,hk⟩:∃k,(lb-la).natAbs=k:=⟨_,rfl⟩
 have eB:max la lb=A+k:=by omega
 rw [hA,hk,eB]
 have C:=FU A k (by omega) (by omega)
 have N:=a0L A k (by omega) (by omega)
 have a:=vD la (by omega) (by omega)
 have b:=vD lb (by omega) (by omega)
 have CO:CB 124 #[.agg #[.int .i64 A,.int .i64 (A+k)]] (V3 (mcL A (A+k),VI A (A+k))):=b6 fun w=>FM A (A+k) w (by unfold jI;simp;omega)
 have M1:=sT lb (by omega) (by omega)
 have M2:=sT la (by omega) (by omega)
 have way:(la<=lb/\la=A/\lb=A+k/\CE lb-CC la=X7 A k/\CC lb-CE la=jJ A k)\/(lb<la/\lb=A/\la=A+k/\CE lb-CC la= -jJ A k/\CC lb-CE la= -X7 A k):=by
  unfold X7 jJ
  by_cases g:la<=lb
  ·have e1:la=A:=by omega
   have e2:lb=A+k:=by omega
   refine .inl ⟨g,e1,e2,?_,?_⟩<;>rw [e2,e1]
  ·have e1:lb=A:=by omega
   have e2:la=A+k:=by omega
   refine .inr ⟨by omega,e1,e2,?_,?_⟩<;>rw [e2,e1]<;>omega
 have a1:=a.1
 have b1:=b.1
 clear a b
 have r0:X7 A 0<=0:=by
  unfold X7
  have h:=(vD A (by omega) (by omega)).1.2.1
  rw [show A+((0:Nat):Int)=A by omega]
  exact Int.sub_nonpos_of_le h
 generalize CE la=p1 at*
 generalize CC la=p2 at*
 generalize CE lb=p3 at*
 generalize CC lb=p4 at*
 generalize mcL A (A+k)=cl at*
 generalize VI A (A+k)=ch at*
 by_cases g:X7 A k<=0
 ·refine ⟨cl,ch,by omega,C.2.2.1,C.2.2.2.1,.inl (Int.le_refl _),b6 fun w=>LF la lb A (A+k) cl ch _ _ _ _ (p3-p2) (p4-p1) w hA eB rfl rfl (by omega) (by omega) ?_ ?_ CO M1 M2⟩
  ·generalize X7 A k=u at*
   generalize jJ A k=v at*
   omega
  ·generalize X7 A k=u at*
   generalize jJ A k=v at*
   omega
 ·have k0:0<k:=by
   apply Nat.pos_of_ne_zero
   intro e
   rw [e] at g
   exact g r0
  have MO:=a0y A k cl ch (by omega) (by omega) C.1 k0 C.2.1 C.2.2.2.1 C.2.2.1 (by omega)
  have f1:zS A k=(k*1073741824:Int)/jJ A k:=rfl
  have f2:mP A k= -(-(k*1073741824:Int)/X7 A k):=rfl
  generalize zS A k=q1 at*
  generalize mP A k=q2 at*
  generalize X7 A k=u at*
  generalize jJ A k=v at*
  obtain ⟨w2,hw2⟩:∃z,-(k*1073741824:Int)/u=z:=⟨_,rfl⟩
  rw [hw2] at f2
  have F1:CB 158 #[.int .i64 (k*1073741824),.int .i64 v] (.int .i64 q1):=by rw [f1];exact rI _ _ (by omega) (by omega) (by omega) (by omega)
  have F2:CB 158 #[.int .i64 (-(k:Int)*1073741824),.int .i64 u] (.int .i64 w2):=by rw [<-hw2,show -((k:Int)*1073741824)= -(k:Int)*1073741824 by omega];exact rI _ _ (by omega) (by omega) (by omega) (by omega)
  have n1:=MO.2.1
  have n2:=MO.2.2.1
  have n3:=MO.2.2.2.1
  have n4:=MO.2.2.2.2.1
  have n8:=MO.2.2.2.2.2
  have n5:=C.2.1
  have n6:=C.2.2.1
  have n7:=C.2.2.2.1
  clear MO C f1 hw2 N r0
  obtain ⟨hm,hhm⟩:∃z,min (-w2) 1073741824=z:=⟨_,rfl⟩
  obtain ⟨ml,hml⟩:∃z,max cl q1=z:=⟨_,rfl⟩
  obtain ⟨mh,hmh⟩:∃z,min ch hm=z:=⟨_,rfl⟩
  have fx:x8 q1 hm=true:=J3 (by omega)
  have fc:x8 cl ch=true:=J3 (by omega)
  have ml0:ml<=mh:=by omega
  have ME:CB 159 #[.agg #[.int .i64 cl,.int .i64 ch],.agg #[.int .i64 q1,.int .i64 hm]] (V3 (ml,mh)):=b6 fun w=>by
   have h:=a0W cl ch q1 hm w fc fx (by rw [hml,hmh];exact ml0)
   rw [hml,hmh] at h
   exact h
  refine ⟨ml,mh,by omega,ml0,by omega,by omega,b6 fun w=> ?_⟩
  rcases way with ⟨e0,e1,e2,e3,e4⟩|⟨e0,e1,e2,e3,e4⟩
  ·exact VX la lb k A (A+k) cl ch _ _ _ _ u v q1 w2 hm _ _ w hA eB (by omega) (by omega) (by omega) hhm e3 e4 (by omega) (by omega) (by omega) (by omega) CO M1 M2 F1 F2 ME
  ·exact CF la lb k A (A+k) cl ch _ _ _ _ (-v) (-u) u v q1 w2 hm _ _ w hA eB (by omega) (by omega) (by omega) hhm e3 e4 (by omega) (by omega) (by omega) (by omega) (by omega) (by omega) CO M1 M2 F1 F2 ME
theorem QJ (q d P:Int) (P0:0<P) (q0:0<=q) (q1:q<=P) (d1:d.natAbs<=10800000): -10800000<=q*d/P/\q*d/P<=10800000/\ -10800000<= -(-(q*d)/P)/\ -(-(q*d)/P)<=10800000/\q*d/P*P<=q*d/\q*d<= -(-(q*d)/P)*P:=by
 have a:q*d<=10800000*P:=by
  have:=Int.mul_le_mul_of_nonneg_left (show d<=10800000 by omega) q0
  omega
 have b: -(10800000*P)<=q*d:=by
  have:=Int.mul_le_mul_of_nonneg_left (show -10800000<=d by omega) q0
  omega
 have c:q*d/P*P<=q*d:=Int.ediv_mul_le _ (by omega)
 have e: -(q*d)/P*P<= -(q*d):=Int.ediv_mul_le _ (by omega)
 refine ⟨Int.le_ediv_of_mul_le P0 (by omega),Int.ediv_le_of_le_mul P0 (by omega),?_,?_,c,?_⟩
 ·have:=Int.ediv_le_of_le_mul (a:= -(q*d)) (b:=10800000) (c:=P) P0 (by omega);omega
 ·have:=Int.le_ediv_of_mul_le (a:= -10800000) (b:= -(q*d)) (c:=P) P0 (by omega);omega
 ·rw [Int.neg_mul];omega
theorem UC (la lo lb lob:Int) (ha:W7 la lo) (hb:W7 lb lob):∃p q x y:Int,dL la lb (lob-lo)<=y/\CB 25 #[.agg #[.int .i64 la,.int .i64 lo],.agg #[.int .i64 lb,.int .i64 lob]] (.tuple #[.agg #[.int .i64 p,.int .i64 q,.int .i64 x,.int .i64 y],.int .i64 0]):=by
 unfold W7 at ha hb
 obtain ⟨ql,qh,q0,q1,q2,hq,ME⟩:=VH la lb (by omega) (by omega)
 have C:=FU (min la lb) (lb-la).natAbs (by omega) (by omega)
 rw [show min la lb+((lb-la).natAbs:Int)=max la lb by omega] at C
 have sb:=pQ (lob-lo)
 obtain ⟨dl,hdl⟩:∃d,aZ (lob-lo)=d:=⟨_,rfl⟩
 have SG:CB 21 #[.int .i64 (lob-lo)] (.int .i64 dl):=b6 fun w=>(qA (lob-lo) dl w (by omega) (by omega) hdl).mono fun e w' h=>⟨h.1,by rw [<-h.2];exact Below.refl _ _⟩
 have s1:=QJ ql dl 1073741824 (by decide) q0 (by omega) (by omega)
 have s2:=QJ qh dl 1073741824 (by decide) (by omega) q2 (by omega)
 have SC:CB 51 #[.agg #[.int .i64 ql,.int .i64 qh],.int .i64 dl] (.tuple #[.int .i64 (LB ql qh 1073741824 1073741824 dl),.int .i64 (MX ql qh 1073741824 1073741824 dl),.int .i64 0]):=b6 fun w=>tX ql qh dl w (J3 (by omega)) (by unfold F5;simp;omega)
 have hl:LB ql qh 1073741824 1073741824 dl=min (ql*dl/1073741824) (qh*dl/1073741824):=by unfold LB;omega
 have hh:MX ql qh 1073741824 1073741824 dl=max (-(-(ql*dl)/1073741824)) (-(-(qh*dl)/1073741824)):=by unfold MX;omega
 obtain ⟨nl,hnl⟩:∃z,LB ql qh 1073741824 1073741824 dl=z:=⟨_,rfl⟩
 obtain ⟨nh,hnh⟩:∃z,MX ql qh 1073741824 1073741824 dl=z:=⟨_,rfl⟩
 rw [hnl] at hl SC
 rw [hnh] at hh SC
 have nn:nl<=nh:=by
  have c:ql*dl/1073741824<= -(-(ql*dl)/1073741824):=Int.le_of_mul_le_mul_right (Int.le_trans s1.2.2.2.2.1 s1.2.2.2.2.2) (by decide)
  omega
 obtain ⟨dn,hdn⟩:∃z,lb-la=z:=⟨_,rfl⟩
 obtain ⟨mp,hmp⟩:∃z,max nl (-nl)=z:=⟨_,rfl⟩
 obtain ⟨mq,hmq⟩:∃z,max nh (-nh)=z:=⟨_,rfl⟩
 obtain ⟨most,hmo⟩:∃z,max (max mp nh) (-nh)=z:=⟨_,rfl⟩
 obtain ⟨lm,hlm⟩:∃z,min mp mq=z:=⟨_,rfl⟩
 obtain ⟨least,hle⟩:∃z,(if 0<nl\/nh<0 then lm else 0)=z:=⟨_,rfl⟩
 have mb:0<=most/\most<=10800000/\nh<=most/\ -nl<=most:=by omega
 have lb0:0<=least/\least<=10800000:=by
  rw [<-hle]
  split<;>omega
 have hmL:qh*((dl.natAbs:Nat):Int)<=most*1073741824:=by
  by_cases g:0<=dl
  ·rw [show ((dl.natAbs:Nat):Int)=dl by omega]
   have:=Int.mul_le_mul_of_nonneg_right (show -(-(qh*dl)/1073741824)<=most by omega) (show (0:Int)<=1073741824 by decide)
   omega
  ·rw [show ((dl.natAbs:Nat):Int)= -dl by omega]
   have:=Int.mul_le_mul_of_nonneg_right (show -(qh*dl/1073741824)<=most by omega) (show (0:Int)<=1073741824 by decide)
   rw [Int.mul_neg]
   rw [Int.neg_mul] at this
   omega
 clear hl hh hnl hnh s1 s2
 have sq:∀z:Int,z.natAbs<=10800000->0<=z*z/\z*z<=116640000000000:=fun z hz=>by
  have a:=Int.mul_nonneg (show 0<=(z.natAbs:Int) by omega) (show 0<=(z.natAbs:Int) by omega)
  have b:=Int.mul_le_mul (show (z.natAbs:Int)<=10800000 by omega) (show (z.natAbs:Int)<=10800000 by omega) (by omega) (by omega)
  have e:(z.natAbs:Int)*z.natAbs=z*z:=by rw [<-Int.natCast_mul,Int.natAbs_mul_self]
  rw [e] at a b
  omega
 have d2:=sq dn (by omega)
 have m2:=sq most (by omega)
 have l2:=sq least (by omega)
 obtain ⟨x,x0,x1,x2⟩:=lO (dn*dn+least*least) (by omega)
 obtain ⟨y,y0,y1,y2⟩:=lO (dn*dn+most*most) (by omega)
 have yb:=xV (a:=y) (b:=20000000) (by omega) (by omega)
 have R1:CB 85 #[.int .i64 (dn*dn+least*least)] (.tuple #[.int .i64 x,.bool (x*x==dn*dn+least*least)]):=b6 fun w=>(tP _ x w (by omega) (by omega) x0 x1 x2).mono fun e w' h=>⟨h.1,by rw [<-h.2];exact Below.refl _ _⟩
 obtain ⟨ex,hex⟩:∃b,(y*y==dn*dn+most*most)=b:=⟨_,rfl⟩
 have R2:CB 85 #[.int .i64 (dn*dn+most*most)] (.tuple #[.int .i64 y,.bool ex]):=b6 fun w=>by
  have:=tP (dn*dn+most*most) y w (by omega) (by omega) y0 y1 y2
  rw [hex] at this
  exact this.mono fun e w' h=>⟨h.1,by rw [<-h.2];exact Below.refl _ _⟩
 have BR:CB 47 #[.agg #[.int .i64 (64*nl),.int .i64 (64*nh)],.agg #[.int .i64 (64*dn),.int .i64 (64*dn)]] (V3 (P8 (64*nl) (64*nh) (64*dn) (64*dn),W5 (64*nl) (64*nh) (64*dn) (64*dn))):=b6 fun w=>gI _ _ _ _ w (J3 (by omega)) (J3 (by omega))
 have Y0:0<=cond ex y (y+1):=by cases ex<;>simp only [cond_true,cond_false]<;>omega
 have Y1:dn*dn+most*most<=cond ex y (y+1)*cond ex y (y+1):=by
  cases ex
  ·simp only [cond_false];omega
  ·simp only [cond_true]
   have:=eq_of_beq hex
   omega
 refine ⟨_,_,x,cond ex y (y+1),?_,b6 fun w=>MD la lo lb lob dl dn ql qh nl nh _ _ most mp mq least lm x y _ ex w (by omega) (by omega) (by omega) (by omega) (by omega) (by omega) (by omega) (by omega) hdn (by omega) (by omega) (by omega) (by omega) (fun _=>hmp) (fun _=>hmq) (fun _=>hmo) (fun _=>hlm) hle.symm SG ME SC BR R1 R2⟩
 generalize cond ex y (y+1)=Y at*
 have e1:(dn.natAbs:Int)*dn.natAbs=dn*dn:=by rw [<-Int.natCast_mul,Int.natAbs_mul_self]
 have:=GL la lb (lob-lo) (min la lb) dn.natAbs dl.natAbs most.toNat Y.toNat (mcL (min la lb) (max la lb)) (VI (min la lb) (max la lb)) qh (by omega) (by omega) (by omega) rfl (by rw [hdn]) (by rw [hdl]) (by rw [<-hdn];exact C.1) (by rw [<-hdn];exact fun u v=>C.2.2.2.2 u (by rw [show max la lb=min la lb+((lb-la).natAbs:Int) by omega];exact v)) (by omega) (by rw [<-hdn];exact hq) (by rw [show ((most.toNat:Nat):Int)=most by omega];exact hmL) (by
   have h:((dn.natAbs*dn.natAbs+most.toNat*most.toNat:Nat):Int)<=((Y.toNat*Y.toNat:Nat):Int):=by
    push_cast
    rw [show ((most.toNat:Nat):Int)=most by omega,show ((Y.toNat:Nat):Int)=Y by omega,e1]
    exact Y1
   exact Int.ofNat_le.1 h)
 rw [show ((Y.toNat:Nat):Int)=Y by omega] at this
 exact this
open Go.RowKit
set_option maxHeartbeats 400000 in
theorem kD (a b:Int) (w:World):
  Calls Tryz.prog 13 #[.agg #[.int .i64 a,.int .i64 b]] w fun e w'=>e= .returned (.bool (P9 a b))/\Below w.heap.size w w':=by
 by_cases h1:a<=b
 ·by_cases h2: -1099511627776<=a
  ·by_cases h3:b<=1099511627776
   ·have H:=b6 (G8 (a:=a) (b:=b) ⟨h1,h2,h3⟩)
    go_enter Tryz.func13,Tryz.ntmps13
    go_wp2
    go_ret
    exact ⟨by rw [H.out];rfl,bv⟩
   ·have H:=b6 (pH (a:=a) (b:=b) (by omega))
    go_enter Tryz.func13,Tryz.ntmps13
    go_wp2
    go_ret
    exact ⟨by rw [H.out];rfl,bv⟩
  ·have H:=b6 (pH (a:=a) (b:=b) (by omega))
   go_enter Tryz.func13,Tryz.ntmps13
   go_wp2
   go_ret
   exact ⟨by rw [H.out];rfl,bv⟩
 ·have H:=b6 (pH (a:=a) (b:=b) (by omega))
  go_enter Tryz.func13,Tryz.ntmps13
  go_wp2
  go_ret
  exact ⟨by rw [H.out];rfl,bv⟩
set_option maxHeartbeats 400000 in
theorem XA (a b c d:Int) (w:World) (h1: -9223372036854775808<=a+c) (h2:a+c<=9223372036854775807) (h3: -9223372036854775808<=b+d) (h4:b+d<=9223372036854775807):
  Calls Tryz.prog 24 #[.agg #[.int .i64 a,.int .i64 b],.agg #[.int .i64 c,.int .i64 d]] w fun e w'=>e= .returned (.agg #[.int .i64 (a+c),.int .i64 (b+d)])/\Below w.heap.size w w':=by
 go_enter Tryz.func24,Tryz.ntmps24
 go_wp2
 exact bodyPost_ret (v:= .agg #[.int .i64 (a+c),.int .i64 (b+d)]) (by first|(simp only [results,Tryz.results24];go_simp;done)|simp [results,Tryz.results24,go_sem, *]) rfl ⟨rfl,bv⟩
theorem LR (a b c d:Int) (w:World) (h1:a<=d) (h2:c<=b):
  Calls Tryz.prog 57 #[.agg #[.int .i64 a,.int .i64 b],.agg #[.int .i64 c,.int .i64 d]] w fun e w'=>e= .returned (.bool true)/\Below w.heap.size w w':=by
 go_enter Tryz.func57,Tryz.ntmps57
 go_wp2
 go_ret
 exact ⟨rfl,bw⟩
theorem jH (a b c d:Int) (w:World) (h1:P9 a b=true) (h2:P9 c d=true) (h3:a<=d) (h4:c<=b):
  Calls Tryz.prog 15 #[.agg #[.int .i64 a,.int .i64 b],.agg #[.int .i64 c,.int .i64 d]] w fun e w'=>e= .returned (.bool true)/\Below w.heap.size w w':=by
 have V:=b6 fun w=>(by have:=kD a b w;rw [h1] at this;exact this:Calls Tryz.prog 13 #[.agg #[.int .i64 a,.int .i64 b]] w fun e w'=>e= .returned (.bool true)/\Below w.heap.size w w')
 have U:=b6 fun w=>(by have:=kD c d w;rw [h2] at this;exact this:Calls Tryz.prog 13 #[.agg #[.int .i64 c,.int .i64 d]] w fun e w'=>e= .returned (.bool true)/\Below w.heap.size w w')
 have M:=b6 fun w=>LR a b c d w h3 h4
 clear h1 h2
 go_enter Tryz.func15,Tryz.ntmps15
 go_wp2_with (first|(go_at_call 13;((with_reducible refine am (V.out _) ?_);intro w' hb);replace hb:=mU;obtain ⟨hcell,hfroz,hz,z6,z7,z8,z9,_⟩:=oH;obtain ⟨w1,rfl⟩:=nm w')|(go_at_call 13;((with_reducible refine am (U.out _) ?_);intro w' hb);replace hb:=mU;obtain ⟨hcell,hfroz,hz,z6,z7,z8,z9,_⟩:=oH;obtain ⟨w2,rfl⟩:=nm w')|(go_at_call 57;((with_reducible refine am (M.out _) ?_);intro w' hb);replace hb:=mU;obtain ⟨hcell,hfroz,hz,z6,z7,z8,z9,_⟩:=oH;obtain ⟨w3,rfl⟩:=nm w'))
 go_ret
 exact ⟨rfl,bv⟩
theorem tM (a b:Int) (w:World) (h:(-5400000<=a/\a<=5400000)/\ -10800000<=b/\b<10800000):
  Calls Tryz.prog 58 #[.agg #[.int .i64 a,.int .i64 b]] w fun e w'=>e= .returned (.bool true)/\Below w.heap.size w w':=by
 obtain ⟨⟨h1,h2⟩,h3,h4⟩:=h
 go_enter Tryz.func58,Tryz.ntmps58
 go_wp2
 go_ret
 exact ⟨rfl,bw⟩
theorem MN (a b:Int) (w:World) (h:¬((-5400000<=a/\a<=5400000)/\ -10800000<=b/\b<10800000)):
  Calls Tryz.prog 58 #[.agg #[.int .i64 a,.int .i64 b]] w fun e w'=>e= .returned (.bool false)/\Below w.heap.size w w':=by
 by_cases h1: -5400000<=a
 ·by_cases h2:a<=5400000
  ·by_cases h3: -10800000<=b
   ·have h4:¬b<10800000:=by omega
    clear h
    go_enter Tryz.func58,Tryz.ntmps58
    go_wp2
    go_ret
    exact ⟨rfl,bw⟩
   ·clear h
    go_enter Tryz.func58,Tryz.ntmps58
    go_wp2
    go_ret
    exact ⟨rfl,bw⟩
  ·clear h
   go_enter Tryz.func58,Tryz.ntmps58
   go_wp2
   go_ret
   exact ⟨rfl,bw⟩
 ·clear h
  go_enter Tryz.func58,Tryz.ntmps58
  go_wp2
  go_ret
  exact ⟨rfl,bw⟩
theorem kH (a b:Int) (w:World) (h:W7 a b):
  Calls Tryz.prog 16 #[.agg #[.int .i64 a,.int .i64 b]] w fun e w'=>e= .returned (.bool true)/\Below w.heap.size w w':=by
 unfold W7 at h
 have P:=b6 fun w=>tM a b w (by omega)
 obtain ⟨⟨h1,h2⟩,h3,h4⟩:=h
 go_enter Tryz.func16,Tryz.ntmps16
 go_wp2_with (go_at_call 58;((with_reducible refine am (P.out _) ?_);intro w' hb);replace hb:=mU;obtain ⟨hcell,hfroz,hz,z6,z7,z8,z9,_⟩:=oH;obtain ⟨w1,rfl⟩:=nm w')
 go_ret
 exact ⟨rfl,bw⟩
theorem tI (a b:Int) (w:World) (h:¬W7 a b):
  Calls Tryz.prog 16 #[.agg #[.int .i64 a,.int .i64 b]] w fun e w'=>e= .returned (.bool false)/\Below w.heap.size w w':=by
 unfold W7 at h
 by_cases g:(-5400000<=a/\a<=5400000)/\ -10800000<=b/\b<10800000
 ·have P:=b6 fun w=>tM a b w g
  by_cases h1: -4800000<=a
  ·have h2:(a<=4800000)=False:=eq_false (by omega)
   clear h g
   go_enter Tryz.func16,Tryz.ntmps16
   go_wp2_with (go_at_call 58;((with_reducible refine am (P.out _) ?_);intro w' hb);replace hb:=mU;obtain ⟨hcell,hfroz,hz,z6,z7,z8,z9,_⟩:=oH;obtain ⟨w1,rfl⟩:=nm w')
   go_ret
   exact ⟨rfl,bw⟩
  ·clear h g
   go_enter Tryz.func16,Tryz.ntmps16
   go_wp2_with (go_at_call 58;((with_reducible refine am (P.out _) ?_);intro w' hb);replace hb:=mU;obtain ⟨hcell,hfroz,hz,z6,z7,z8,z9,_⟩:=oH;obtain ⟨w1,rfl⟩:=nm w')
   go_ret
   exact ⟨rfl,bw⟩
 ·have P:=b6 fun w=>MN a b w g
  clear h g
  go_enter Tryz.func16,Tryz.ntmps16
  go_wp2_with (go_at_call 58;((with_reducible refine am (P.out _) ?_);intro w' hb);replace hb:=mU;obtain ⟨hcell,hfroz,hz,z6,z7,z8,z9,_⟩:=oH;obtain ⟨w1,rfl⟩:=nm w')
  go_ret
  exact ⟨rfl,bw⟩
theorem yH (yl yh xl xh:Int):P9 (P8 yl yh xl xh) (W5 yl yh xl xh)=true:=by
 have b:=UF yl yh xl xh
 generalize P8 yl yh xl xh=u at*
 generalize W5 yl yh xl xh=v at*
 exact G8 (by omega)
theorem AO (la lo lb lob:Int) (ha:W7 la lo) (hb:W7 lb lob):(0<=dL la lb (lob-lo)/\dL la lb (lob-lo)<=dH la lb (lob-lo)/\dH la lb (lob-lo)<=10800000)/\
  (slL la lb (lob-lo)+dL la lb (lob-lo)<=5400000/\5400000<=slH la lb (lob-lo)+dH la lb (lob-lo)/\ -5400001<=slL la lb (lob-lo)/\slH la lb (lob-lo)<=5400001)/\
  (P9 (crL la lb (lob-lo)) (crH la lb (lob-lo))=true/\P9 (szL la lb (lob-lo)) (szH la lb (lob-lo))=true)/\
  dR (szL la lb (lob-lo)) (szH la lb (lob-lo)) (crL la lb (lob-lo)) (crH la lb (lob-lo))=true:=by
 unfold W7 at ha hb
 obtain ⟨m,m0,m1,hm⟩:=lP la lb (lob-lo)
 have E:=eP la lb (lob-lo) m (by omega) (by omega) (by omega) m0 m1 hm
 have A:=BX la lb (lob-lo) (by omega) (by omega) (by omega)
 obtain ⟨_,_,_,y,x,wd,c1,c2,c3,c4⟩:=uG la lb (lob-lo) (by omega) (by omega) (by omega)
 have S1:=KG (oO la lb (lob-lo)).1
 have S2:=IZ (oO la lb (lob-lo)).2
 refine ⟨⟨E.2.2.1,?_,E.2.2.2.2.2.1⟩,⟨A.2.2.1,A.2.2.2,S1.1,S2.2⟩,⟨yH _ _ _ _,yH _ _ _ _⟩,MZ c1 c2 c3 c4⟩
 ·have p:=E.2.2.2.2.2.2.1
  have q:=E.2.2.2.2.2.2.2.1
  clear E A S1 S2 c1 c2 c3 c4 hm
  show Y5 (Y6 la lb (lob-lo)).1<=fH (Y6 la lb (lob-lo)).2
  generalize Y5 (Y6 la lb (lob-lo)).1=u at*
  generalize fH (Y6 la lb (lob-lo)).2=v at*
  have w1:=jX u
  have w2:=jX v
  omega
theorem ML (la:Int) (h: -4800000<=la/\la<=4800000):dL la la 0=0:=by
 have c0:fR.c' 0=1:=by unfold Rg.c';rfl
 have q:qv la la 0=1:=by
  unfold qv
  rw [show uW*(la-la)=0 by rw [Int.sub_self,Int.mul_zero],show uW*(0:Int)=0 from Int.mul_zero _,c0]
  generalize fR.c' (uW*la)=z
  grind
 have E:=eP la la 0 0 (by omega) (by omega) (by omega) (by omega) (by decide) (by rw [q,c0];unfold f9;constructor<;>decide+kernel)
 have p:=E.2.2.2.2.2.2.1
 have r:=E.2.2.1
 clear E q c0
 show Y5 (Y6 la la 0).1=0
 generalize Y5 (Y6 la la 0).1=u at*
 have w1:=jX u
 omega
theorem PU (la lo lb lob:Int) (ha:W7 la lo) (hb:W7 lb lob) (hd: -10200000<=aZ (lob-lo)/\aZ (lob-lo)<=10200000):∃x y:Int,(0<=x/\x<=y/\y<=10800000)/\x<=dH la lb (lob-lo)/\dL la lb (lob-lo)<=y/\
  CB 26 #[.agg #[.int .i64 la,.int .i64 lo],.agg #[.int .i64 lb,.int .i64 lob],.int .i64 5399999] (.tuple #[.agg #[.int .i64 x,.int .i64 y],.int .i64 0]):=by
 have N:=(AO la lo lb lob ha hb).1
 have G:=zW la lo lb lob ha hb
 cases e:(lb==la&&lob==lo)
 ·obtain ⟨x,hx⟩:∃x,dL la lb (lob-lo)=x:=⟨_,rfl⟩
  obtain ⟨y,hy⟩:∃y,dH la lb (lob-lo)=y:=⟨_,rfl⟩
  rw [hx,hy] at N G
  rw [hx,hy]
  refine ⟨x,y,N,N.2.1,N.2.1,b6 fun w=>LK la lo lb lob _ _ x y w ha hb (b6 fun w=>tK 2 la lo lb lob w ha hb hd (.inl ⟨rfl,e⟩)) G (b6 fun w=> ?_)⟩
  have A:=DZ 0 0 x y w (G8 (by omega)) (G8 (by omega)) (bJ (by omega)) (bJ (by omega))
  rw [Int.zero_add,Int.zero_add] at A
  exact A
 ·have e1:lb=la/\lob=lo:=by simpa using e
  obtain ⟨rfl,rfl⟩:=e1
  have z:=ML lb hb.1
  rw [Int.sub_self] at N ⊢
  rw [z] at N ⊢
  exact ⟨0,0,by omega,by omega,by omega,b6 fun w=>NJ lb lob lb lob w ha (b6 fun w=>tK 1 lb lob lb lob w ha hb hd (.inr ⟨rfl,rfl,rfl⟩))⟩
end Go.Proofs.YtdhbeoahpfimbaaGreat
