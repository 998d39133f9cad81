/- Part of the proof of TopDistances. -/
import Derived.Test.YtdhbeoahpfimbaaGreatPd
import Derived.Test.YtdhbeoahpfimbaaGreatPg
namespace Go.Proofs.YtdhbeoahpfimbaaGreat
open Brg Rot
theorem rO:x6=2^192:=by decide
theorem RR (k:Nat):T5 k=O8 k:=by
 unfold T5 O8
 rw [show eW=aP by decide]
theorem a1d (k:Nat):kT k=jQ k:=by
 unfold kT jQ
 rw [RR,rO]
theorem tV (t:Nat->Int) (k m:Nat):T7 t (k+1) m=T7 t k m+(if k%2=0 then t (m+k) else -t (m+k)):=by
 induction k generalizing m with
 |zero=>simp [T7]
 |succ k ih=>
  have e:T7 t (k+1+1) m=t m-T7 t (k+1) (m+1):=rfl
  have f:T7 t (k+1) m=t m-T7 t k (m+1):=rfl
  rw [e,ih,f,show m+1+k=m+(k+1) by omega]
  by_cases h:k%2=0
  ·rw [if_pos h,if_neg (by omega)];omega
  ·rw [if_neg h,if_pos (by omega)];omega
theorem a2k (x sq:Int) (o:Nat) (f1:x<=x6) (_x0:0<=x) (s0:0<=sq) (s1:sq<=x6) (k j:Nat) (h:X8 x (T7 (N4 x sq o) (j+1) 0) (N4 x sq o j) (decide (j%2=0))):
  ∃d,d<=k/\dV k sq (T7 (N4 x sq o) (j+1) 0) (N4 x sq o j) (2*(j:Int)+o) (decide (j%2=0))=T7 (N4 x sq o) (j+1+d) 0/\(d=k\/N4 x sq o (j+d)=0):=by
 induction k generalizing j with
 |zero=>exact ⟨0,by omega,rfl,.inl rfl⟩
 |succ k ih=>
  unfold dV
  by_cases z:N4 x sq o j=0
  ·rw [if_pos z]
   exact ⟨0,by omega,rfl,.inr z⟩
  ·rw [if_neg z]
   have hh:=h
   unfold X8 at hh
   have hW:=fD
   have hp:=N8
   have nt:dG sq (N4 x sq o j) (2*(j:Int)+o)=N4 x sq o (j+1):=by
    unfold dG
    have a:0<=N4 x sq o j*sq:=Int.mul_nonneg hh.1 s0
    have c:0<=N4 x sq o j*sq/x6:=Int.ediv_nonneg a (by omega)
    have b:N4 x sq o j*sq/x6<=N4 x sq o j:=Int.ediv_le_of_le_mul hp (Int.mul_le_mul_of_nonneg_left s1 hh.1)
    rw [Int.emod_eq_of_lt c (by omega)]
    show _=N4 x sq o j*sq/2^192/((2*(j:Int)+1+o)*(2*(j:Int)+2+o))
    rw [rO]
    congr 1
    grind
   have st:=pZ f1 s0 s1 (show (0:Int)<=2*(j:Int)+o by omega) h
   rw [nt] at st ⊢
   have al:=tV (N4 x sq o) (j+1) 0
   rw [Nat.zero_add] at al
   have nx:(if decide (j%2=0)=true then (T7 (N4 x sq o) (j+1) 0-N4 x sq o (j+1))%o6 else (T7 (N4 x sq o) (j+1) 0+N4 x sq o (j+1))%o6)=T7 (N4 x sq o) (j+1+1) 0:=by
    have nb:=uE s0 s1 hh.1 (by omega) (show (0:Int)<=2*(j:Int)+o by omega)
    rw [nt] at nb
    rw [al]
    by_cases e:j%2=0
    ·rw [decide_eq_true e] at hh ⊢
     simp only [if_true] at hh ⊢
     rw [if_neg (by omega),Int.emod_eq_of_lt (by omega) (by omega)]
     omega
    ·rw [decide_eq_false e] at hh ⊢
     simp only [Bool.false_eq_true,if_false] at hh ⊢
     rw [if_pos (by omega),Int.emod_eq_of_lt (by omega) (by omega)]
   rw [nx] at st ⊢
   have dj:(!decide (j%2=0))=decide ((j+1)%2=0):=by
    by_cases e:j%2=0
    ·rw [decide_eq_true e,decide_eq_false (by omega)];rfl
    ·rw [decide_eq_false e,decide_eq_true (by omega)];rfl
   rw [dj] at st ⊢
   obtain ⟨d,hd,e1,e2⟩:=ih (j+1) st
   refine ⟨d+1,by omega,?_,?_⟩
   ·rw [show 2*(j:Int)+o+2=2*((j+1:Nat):Int)+o by omega,e1,show j+1+1+d=j+1+(d+1) by omega]
   ·rcases e2 with e2|e2
    ·exact .inl (by omega)
    ·exact .inr (by rw [show j+(d+1)=j+1+d by omega];exact e2)
theorem VY (x sq:Int) (o j d:Nat) (h:N4 x sq o j=0):N4 x sq o (j+d)=0:=by
 induction d with
 |zero=>exact h
 |succ d ih=>
  show N4 x sq o (j+d)*sq/2^192/_=0
  rw [ih];simp
theorem JU (x sq:Int) (o:Nat) (f1:x<=x6) (x0:0<=x) (s0:0<=sq) (s1:sq<=x6):dV 200 sq x x o true=T7 (N4 x sq o) 201 0:=by
 have h:=a2k x sq o f1 x0 s0 s1 200 0 (by show X8 x (x-0) x true;unfold X8;simp;omega)
 obtain ⟨d,hd,e1,e2⟩:=h
 have t:dV 200 sq x x o true=T7 (N4 x sq o) (0+1+d) 0:=by
  rw [<-e1]
  show dV 200 sq x x o true=dV 200 sq (x-0) x (2*((0:Nat):Int)+o) true
  congr 1
  ·omega
  ·omega
 rw [t]
 rcases e2 with e2|e2
 ·subst e2;rfl
 ·rw [Nat.zero_add] at e2
  have r:∀c,T7 (N4 x sq o) (0+1+d+c) 0=T7 (N4 x sq o) (0+1+d) 0:=fun c=>by
   induction c with
   |zero=>rfl
   |succ c ih=>
    have z:=VY x sq o d (1+c) e2
    rw [<-Nat.add_assoc,tV,ih,show 0+(0+1+d+c)=d+(1+c) by omega,z]
    split<;>omega
  rw [<-r (200-d)]
  congr 1
  omega
theorem tU (k:Nat) (h:k<=2700000):f9 (fQ k) (2^64*(iS k:Rat)) (2^127):=by
 have a:=lH (k:=k) (by omega) (by omega)
 have s:=lS (k:=k) (by omega) (by omega)
 have e:fQ k=T7 (N4 (O8 k) (jQ k) 1) 201 0:=by
  unfold fQ
  rw [RR,a1d] at*
  exact JU _ _ 1 a.2 a.1 s.1 s.2
 rw [e,pL]
 exact HU k 188 (by omega) (by omega)
theorem tH (k:Nat) (h:k<2700000):f9 (iK k) (2^64*(iC k:Rat)) (2^127):=by
 have s:=lS (k:=k) (by omega) (by omega)
 have w:=N8
 have e:iK k=T7 (N4 (2^192) (jQ k) 0) 201 0:=by
  unfold iK
  rw [a1d] at*
  have:=JU x6 (jQ k) 0 (Int.le_refl _) (by omega) s.1 s.2
  rw [<-rO]
  exact this
 rw [e,pL]
 exact YJ k 188 h (by omega)
theorem JJ {X:Int} {I:Int} {x:Rat} (h:f9 X (2^64*(I:Rat)) (2^127)) (g:f9 (2^128*x) I (2^55)):f9 X (2^192*x) (2^192*(1/2^60)):=by
 have e1:(2:Rat)^192*x=2^64*(2^128*x):=by
  have:(2:Rat)^192=2^64*2^128:=by decide+kernel
  rw [this];grind
 have e2:(2:Rat)^127+2^64*2^55<=2^192*(1/2^60):=by decide+kernel
 have t:(0:Rat)<=2^64:=by decide+kernel
 rw [e1]
 unfold f9 at*
 generalize (2:Rat)^128*x=y at*
 generalize (2:Rat)^192*(1/2^60)=Z at*
 have m1:=Rat.mul_le_mul_of_nonneg_left g.1 t
 have m2:=Rat.mul_le_mul_of_nonneg_left g.2 t
 generalize (2:Rat)^64=T at*
 generalize (2:Rat)^127=U at*
 generalize (2:Rat)^55=V at*
 constructor<;>grind
theorem YE (k:Nat) (hk:k<=5400000):rV cK sK k:=by
 have g:=cC k hk
 unfold gN at g
 by_cases h0:k=0
 ·subst h0
  refine ⟨1,by decide,?_,?_⟩
  ·rw [show cK 0=1 from rfl,show (uW:Int)*((0:Nat):Int)=0 from rfl,show fR.c' 0=1 from rfl];unfold f9;decide+kernel
  ·rw [show sK 0=0 from rfl,show (uW:Int)*((0:Nat):Int)=0 from rfl,show fR.s' 0=0 from rfl];unfold f9;decide+kernel
 ·by_cases h1:k=2700000
  ·have en:=cX k h1
   have ei:=X9 k (by omega) (by omega)
   rw [cI k (by omega)] at ei
   have c1:cK k=1:=by rw [h1];rfl
   have c2:sK k=1:=by rw [h1];rfl
   have ec:iC k=Rot.gS 2700000:=by rw [ei.2,h1];rfl
   have es:iS k=Rot.gS 2700000:=by rw [ei.1,h1,<-cI 2700000 (by omega)];rfl
   rw [ec] at g
   rw [es] at g
   have z:=fR.z_one (uW*(k:Int))
   have cp:0<fR.c' (uW*(k:Int)):=jM _ (by rw [h1];decide)
   have sp:=fR.S_half O9.1 O9.2 kQ X6 (uW*k) (by rw [h1];decide) (by rw [h1];decide)
   have zn:=(fR.z_nat (uW*k)).2
   rw [<-zn,show (((uW*k:Nat):Int))=(uW:Int)*(k:Int) by push_cast;rfl] at sp
   rw [rV,c1,c2]
   generalize fR.c' (uW*(k:Int))=x at*
   generalize fR.s' (uW*(k:Int))=y at*
   generalize (Rot.gS 2700000:Rat)=G at*
   have xy:f9 y x (1/2^62):=by
    have t:(0:Rat)<2^128:=by decide+kernel
    have e:(2:Rat)^55+2^55<=2^128*(1/2^62):=by decide+kernel
    unfold f9 at*
    generalize (1/2^62:Rat)=E at*
    generalize (2:Rat)^55=F at*
    have a:=b8 t (show 0<=2^128*(y-(x-E)) by grind)
    have b:=b8 t (show 0<=2^128*(x+E-y) by grind)
    constructor<;>grind
   have e3:(1:Rat)/2^62<=1/2^60:=by decide+kernel
   have e4:(0:Rat)<=1/2^60:=by decide+kernel
   have i0:0<1/x:=by rw [Rat.div_def,Rat.one_mul];exact Rat.inv_pos.2 cp
   have ix:1/x*x=1:=Rat.div_mul_cancel (by grind)
   refine ⟨1/x,i0,?_,?_⟩
   ·rw [ix]
    have:=Rat.mul_nonneg (Rat.le_of_lt i0) e4
    unfold f9
    constructor<;>grind
   ·have m1:=Rat.mul_le_mul_of_nonneg_left xy.1 (Rat.le_of_lt i0)
    have m2:=Rat.mul_le_mul_of_nonneg_left xy.2 (Rat.le_of_lt i0)
    have m3:=Rat.mul_le_mul_of_nonneg_left e3 (Rat.le_of_lt i0)
    unfold f9
    generalize (1/2^60:Rat)=E at*
    generalize (1/2^62:Rat)=F at*
    generalize 1/x=I at*
    constructor<;>grind
  ·have b1:=AL (k:=k) (by omega) (by omega)
   have b2:=yA (k:=k) (by omega) (by omega)
   have c1:((cK k:Nat):Rat)=(aO k:Rat):=by
    have:((cK k:Nat):Int)=aO k:=by unfold cK;rw [if_neg h0,if_neg h1];omega
    rw [<-this];rfl
   have c2:((sK k:Nat):Rat)=(aH k:Rat):=by
    have:((sK k:Nat):Int)=aH k:=by unfold sK;rw [if_neg h0,if_neg h1];omega
    rw [<-this];rfl
   rw [rV,c1,c2]
   refine ⟨2^192,by decide+kernel,JJ (I:=iC k) ?_ g.1,JJ (I:=iS k) ?_ g.2⟩
   ·unfold aO
    by_cases h:2700000<(k:Int)
    ·rw [if_pos h]
     have:=tU (5400000-k) (by omega)
     have e:=X9 (5400000-k:Nat) (by omega) (by omega)
     have f:=X9 k (by omega) (by omega)
     rw [show (((5400000-k:Nat)):Int)=5400000-(k:Int) by omega] at this e
     rw [f.2,<-e.1]
     exact this
    ·rw [if_neg h]
     exact tH k (by omega)
   ·unfold aH
    by_cases h:2700000<(k:Int)
    ·rw [if_pos h]
     have:=tH (5400000-k) (by omega)
     have e:=X9 (5400000-k:Nat) (by omega) (by omega)
     have f:=X9 k (by omega) (by omega)
     rw [show (((5400000-k:Nat)):Int)=5400000-(k:Int) by omega] at this e
     rw [show (5400000:Int)-(5400000-(k:Int))=k by omega] at e
     rw [f.1,<-e.2]
     exact this
    ·rw [if_neg h]
     exact tU k (by omega)
theorem JO (a b:Int) (h:a<=b) (x e:Rat) (e1:1<=18446744073709551616*(1073741824*e)) (l:(a:Rat)<=1073741824*(x+e)) (k:1073741824*(x-e)<=b):
  ∃d:Int,18446744073709551616*a<=d/\d<=18446744073709551616*b/\f9 d (18446744073709551616*1073741824*x) (18446744073709551616*1073741824*e):=by
 have f:=UU (18446744073709551616*1073741824*x)
 generalize (18446744073709551616*1073741824*x).floor=y at*
 unfold f9 at*
 by_cases p:y<18446744073709551616*a
 ·refine ⟨18446744073709551616*a,by omega,by omega,?_⟩
  have:=v6 (Int.le_of_lt p)
  push_cast at*
  constructor<;>grind
 ·by_cases q:18446744073709551616*b<y
  ·refine ⟨18446744073709551616*b,by omega,by omega,?_⟩
   have:=v6 (Int.le_of_lt q)
   push_cast at*
   constructor<;>grind
  ·refine ⟨y,by omega,by omega,?_⟩
   constructor<;>grind
theorem a3l:cK 2700000=1:=by unfold cK;rw [if_neg (by decide),if_pos rfl]
theorem a3C:sK 2700000=1:=by unfold sK;rw [if_neg (by decide),if_pos rfl]
set_option maxHeartbeats 1000000 in
theorem UH (la lo lb lob m rl rs:Int) (h1:la.natAbs<=5400000) (h2:lb.natAbs<=5400000) (h3:lo.natAbs<=10800000) (h4:lob.natAbs<=10800000) (m0:0<=m) (m1:m<=2*kQ) (hm:f9 (fR.c' m) (qv la lb (lob-lo)) (1/2^60))
  (hl:W9 (max 0 (wQ la lo lb lob).1*1073741824) rl) (hs:W9 ((wQ la lo lb lob).2*1073741824) rs):
  0<=(wQ la lo lb lob).2/\x8 rl (T9 ((wQ la lo lb lob).2*1073741824) rs)=true/\
  uW*P8 rl (T9 ((wQ la lo lb lob).2*1073741824) rs) (uY la lo lb lob).1 (uY la lo lb lob).2<=m+hU+2^42/\m<=uW*W5 rl (T9 ((wQ la lo lb lob).2*1073741824) rs) (uY la lo lb lob).1 (uY la lo lb lob).2+hU/\
  0<=P8 rl (T9 ((wQ la lo lb lob).2*1073741824) rs) (uY la lo lb lob).1 (uY la lo lb lob).2/\P8 rl (T9 ((wQ la lo lb lob).2*1073741824) rs) (uY la lo lb lob).1 (uY la lo lb lob).2<=W5 rl (T9 ((wQ la lo lb lob).2*1073741824) rs) (uY la lo lb lob).1 (uY la lo lb lob).2/\
  W5 rl (T9 ((wQ la lo lb lob).2*1073741824) rs) (uY la lo lb lob).1 (uY la lo lb lob).2<=10800001:=by
 obtain ⟨_,_,_,_,_,_,D,N,iD,iN,nD,nN,N0⟩:=uN la lo lb lob h1 h2 h3 h4
 have qb:=pM la lb (lob-lo)
 have e:=aE
 generalize qv la lb (lob-lo)=q at*
 generalize uY la lo lb lob=d at*
 generalize wQ la lo lb lob=t at*
 obtain ⟨dl,dh⟩:=d
 obtain ⟨tl,th⟩:=t
 simp only at*
 have dlh:=qH iD
 have tlh:=qH iN
 unfold dE iv at iD iN
 simp only at iD iN
 obtain ⟨sh,hsh⟩:∃s,T9 (th*1073741824) rs=s:=⟨_,rfl⟩
 have th0:0<=th:=by
  have:((0:Int):Rat)<=th:=Rat.le_trans (Rat.mul_nonneg (show (0:Rat)<=1073741824 by decide) N0) iN.1.2
  exact R7 this
 have S:=hs
 unfold W9 at hl S
 have shb:0<=sh/\th*1073741824<=sh*sh/\sh<=rs+1:=by
  rw [<-hsh]
  unfold T9
  split
  ·exact ⟨by omega,by omega,by omega⟩
  ·exact ⟨by omega,by omega,by omega⟩
 rw [hsh]
 have r1:=v6 hl.2.1
 have r2:=v6 shb.2.1
 have r3:(0:Rat)<=rl:=v6 hl.1
 have r4:(0:Rat)<=sh:=v6 shb.1
 have mx:((max 0 tl:Int):Rat)=tl\/((max 0 tl:Int):Rat)=0:=by
  rcases (show max 0 tl=tl\/max 0 tl=0 by omega) with k|k<;>rw [k]
  ·exact .inl rfl
  ·exact .inr rfl
 rw [Rat.intCast_mul,Rat.intCast_mul,show ((1073741824:Int):Rat)=1073741824 from rfl] at r1 r2
 obtain ⟨x,hx,-⟩:=H5 (show (0:Rat)<1073741824 by decide) (X:=rl) (a:=0) (e:=rl) (by unfold f9;constructor<;>grind)
 obtain ⟨y,hy,-⟩:=H5 (show (0:Rat)<1073741824 by decide) (X:=sh) (a:=0) (e:=sh) (by unfold f9;constructor<;>grind)
 have x0:0<=x:=b8 (show (0:Rat)<1073741824 by decide) (by rw [<-hx];exact r3)
 have y0:0<=y:=b8 (show (0:Rat)<1073741824 by decide) (by rw [<-hy];exact r4)
 have xN:x*x<=N:=by
  rw [hx] at r1
  generalize ((max 0 tl:Int):Rat)=T at*
  rcases mx with k|k<;>grind
 have yN:N<=y*y:=by
  rw [hy] at r2
  grind
 have z:=fR.z_one m
 have sm:0<=fR.s' m:=by
  obtain ⟨n,rfl⟩:∃n:Nat,m=n:=⟨m.toNat,by omega⟩
  rw [(fR.z_nat n).2]
  rcases Nat.eq_zero_or_pos n with k|k
  ·subst k;decide+kernel
  ·exact Rat.le_of_lt (fR.S_half O9.1 O9.2 kQ X6 n k (by omega))
 have f:126*dX+3*(1/2^60)<=(3/4*(1/2^27))*(3/4*(1/2^27))/\(0:Rat)<=3/4*(1/2^27)/\(3/4*(1/2^27):Rat)<=1/2^27/\21*dX+1/2^60<=1/2^27/\1<=18446744073709551616*(1073741824*(1/2^27:Rat))/\(1:Rat)/2^60<=1/\126*dX<=1/1000/\21*dX<=1/1000/\(1/2^27:Rat)<=1:=by unfold dX;decide+kernel
 have nS:f9 N (fR.s' m*fR.s' m) ((3/4*(1/2^27))*(3/4*(1/2^27))):=by
  have f1:=f.1
  have f2:=f.2.2.2.2.2.1
  unfold f9 at hm nN ⊢
  generalize ((3/4*(1/2^27))*(3/4*(1/2^27)):Rat)=F at*
  generalize (1/2^60:Rat)=G at*
  generalize fR.c' m=c at*
  generalize fR.s' m=s at*
  have p:=A6 (a:=c-q) (b:=c+q) (e:=G) (f:=3) (by grind) (by grind) (by grind) (by grind)
  constructor<;>grind
 have R:=yR (x:=x) sm f.2.1 nS
 have R2:=yR (x:=y) sm f.2.1 nS
 have Rx:=R.1 x0 xN
 have Ry:=R2.2 y0 yN
 have f3:=f.2.2.1
 have f4:=f.2.2.2.1
 have f5:=f.2.2.2.2.1
 have f7:=f.2.2.2.2.2.2
 have slh:rl<=sh:=by
  apply R7
  rw [hx,hy]
  have:x<=y:=by
   apply Classical.byContradiction
   intro g
   have:=Rat.mul_pos (show 0<x-y by grind) (show 0<x-y by grind)
   have:=Rat.mul_nonneg y0 (show 0<=x-y by grind)
   grind
  grind
 obtain ⟨dy,u1,u2,u3⟩:=JO rl sh slh (fR.s' m) (1/2^27) f5 (by rw [hx];grind) (by rw [hy];grind)
 obtain ⟨dx,v1,v2,v3⟩:=JO dl dh dlh (fR.c' m) (1/2^27) f5 (by unfold f9 at hm nD;grind) (by unfold f9 at hm nD;grind)
 have no:¬(dl<=0/\0<=dh/\rl<=0/\0<=sh):=by
  intro ⟨k1,k2,k3,k4⟩
  have k1:=v6 k1
  have k2:=v6 k2
  have e0:((0:Int):Rat)=0:=rfl
  rw [e0] at k1 k2
  have Db: -1/1000<=D/\D<=1/1000:=by constructor<;>grind
  have qs: -2/1000<=q/\q<=2/1000:=by unfold f9 at nD;constructor<;>grind
  have qq:=A6 (a:=q) (b:=q) (e:=2/1000) (f:=2/1000) (by grind) (by grind) (by grind) (by grind)
  have Nb:99/100<=N:=by unfold f9 at nN;grind
  have tb:((1:Int):Rat)<=tl:=by have k:((1:Int):Rat)=1:=rfl;rw [k];grind
  have tb:=R7 tb
  have r0:rl=0:=by omega
  have:=hl.2.2
  rw [r0] at this
  omega
 have bf:=WL YE (by rw [a3l,a3C]) (by rw [a3l];decide) (xl:=dl) (xh:=dh) (yl:=rl) (yh:=sh) (s:=18446744073709551616) (dx:=dx) (dy:=dy) dlh slh hl.1 no (by decide) v1 v2 u1 u2 (18446744073709551616*1073741824) m (by decide+kernel) (by rw [Rat.mul_assoc] at v3 ⊢;exact v3) (by rw [Rat.mul_assoc] at u3 ⊢;exact u3) m0 m1
 have ob:¬Y7 dl dh rl sh=true:=by unfold Y7;simpa using no
 have fb:=UF rl sh dl dh
 have rs1:=dY (n:=th*1073741824) (r:=rs) (by
  have:(th:Rat)<=((2147483648:Int):Rat):=by
   have k:((2147483648:Int):Rat)=2147483648:=rfl
   rw [k];unfold f9 at nN;have:=x7 q;grind
  have:=R7 this
  omega) hs
 rw [lF ob,lD ob] at fb ⊢
 generalize M7 cK sK (B9 dl dh rl sh).1 (B9 dl dh rl sh).2=AF at*
 generalize jW cK sK dl dh rl sh=AE at*
 generalize N5 cK sK (D6 dl dh rl sh).1 (D6 dl dh rl sh).2=XX at*
 refine ⟨th0,J3 ⟨by omega,slh,by omega⟩,bf.1,bf.2.1,fb.1,fb.2.2.1,?_⟩
 have:=bf.2.2.2
 clear bf
 split<;>omega
end Go.Proofs.YtdhbeoahpfimbaaGreat
