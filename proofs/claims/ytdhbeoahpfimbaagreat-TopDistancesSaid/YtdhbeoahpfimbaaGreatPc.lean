/- Part of the proof of TopDistances. -/
import Derived.Test.YtdhbeoahpfimbaaGreatPb
import Derived.Test.YtdhbeoahpfimbaaGreatPa
namespace Go.Proofs.YtdhbeoahpfimbaaGreat.Rot
theorem MV:bR sR 4800002<=2^35*zN:=by decide+kernel
theorem LY:bR cR 4800002<=2^35*zN:=by decide+kernel
theorem XV (n:Int) (h0:0<=n) (h1:n<=4800002):
  (-(2^35*zN)<=2^128*sN (n+1)-(340282366920924066805512056100497561939*sN n+98984128154162191825446416122235*cN n)/\2^128*sN (n+1)-(340282366920924066805512056100497561939*sN n+98984128154162191825446416122235*cN n)<=2^35*zN)/\
  (-(2^35*zN)<=2^128*cN (n+1)-(340282366920924066805512056100497561939*cN n-98984128154162191825446416122235*sN n)/\2^128*cN (n+1)-(340282366920924066805512056100497561939*cN n-98984128154162191825446416122235*sN n)<=2^35*zN):=by
 have a:=oZ sR n 4800002 h0 h1
 have b:=oZ cR n 4800002 h0 h1
 have a2:=MV
 have b2:=LY
 obtain ⟨x,hx⟩:∃x,bR sR 4800002=x:=⟨_,rfl⟩
 obtain ⟨y,hy⟩:∃y,bR cR 4800002=y:=⟨_,rfl⟩
 rw [hx] at a a2
 rw [hy] at b b2
 clear hx hy
 unfold sR at a
 unfold cR at b
 simp only [mK,jS,GY,a08,a07] at a b
 generalize sN (n+1)=s1 at*
 generalize cN (n+1)=c1 at*
 generalize sN n=s0 at*
 generalize cN n=c0 at*
 generalize zN=z at*
 omega
theorem QO (S C s c:Nat->Int) (z:Int) (z0:0<z) (h0:z*S 0-2^128*s 0=0) (g0:z*C 0-2^128*c 0=0)
  (hs:∀n,n<4800002->(-(2^156)<=2^128*S (n+1)-(340282366920924066805512056100497561939*S n+98984128154162191825446416122235*C n)/\2^128*S (n+1)-(340282366920924066805512056100497561939*S n+98984128154162191825446416122235*C n)<=2^156)/\
   (-(2^156)<=2^128*C (n+1)-(340282366920924066805512056100497561939*C n-98984128154162191825446416122235*S n)/\2^128*C (n+1)-(340282366920924066805512056100497561939*C n-98984128154162191825446416122235*S n)<=2^156))
  (hp:∀n,n<4800002->(-(2^35*z)<=2^128*s (n+1)-(340282366920924066805512056100497561939*s n+98984128154162191825446416122235*c n)/\2^128*s (n+1)-(340282366920924066805512056100497561939*s n+98984128154162191825446416122235*c n)<=2^35*z)/\
   (-(2^35*z)<=2^128*c (n+1)-(340282366920924066805512056100497561939*c n-98984128154162191825446416122235*s n)/\2^128*c (n+1)-(340282366920924066805512056100497561939*c n-98984128154162191825446416122235*s n)<=2^35*z)) (n:Nat) (hn:n<=4800002):
  -(z*2^62)<=z*S n-2^128*s n/\z*S n-2^128*s n<=z*2^62:=by
 obtain ⟨K,hK⟩:∃K:Int,K=2^164*z:=⟨_,rfl⟩
 have h:=oX (fun n=>z*S n-2^128*s n) (fun n=>z*C n-2^128*c n) K 4800002 (by omega) h0 g0 (by omega)
  (fun n hn=>by
   have e:=(hs n hn).1
   have p:=(hp n hn).1
   have e1:=Int.mul_le_mul_of_nonneg_left e.1 (Int.le_of_lt z0)
   have e2:=Int.mul_le_mul_of_nonneg_left e.2 (Int.le_of_lt z0)
   simp only [Int.mul_sub,Int.mul_neg,Int.mul_add,Int.mul_left_comm z] at e1 e2
   generalize z*S (n+1)=x1 at*
   generalize z*S n=x0 at*
   generalize z*C n=y0 at*
   generalize s (n+1)=s1 at*
   generalize s n=s0 at*
   generalize c n=c0 at*
   omega)
  (fun n hn=>by
   have e:=(hs n hn).2
   have p:=(hp n hn).2
   have e1:=Int.mul_le_mul_of_nonneg_left e.1 (Int.le_of_lt z0)
   have e2:=Int.mul_le_mul_of_nonneg_left e.2 (Int.le_of_lt z0)
   simp only [Int.mul_sub,Int.mul_neg,Int.mul_left_comm z] at e1 e2
   generalize z*C (n+1)=x1 at*
   generalize z*S n=x0 at*
   generalize z*C n=y0 at*
   generalize c (n+1)=c1 at*
   generalize s n=s0 at*
   generalize c n=c0 at*
   omega) n hn
 have g:gF n<=3437746*26000000:=by
  unfold gF
  have:(n:Int)*(3437746+3*n)<=4800002*(3437746+3*4800002):=Int.mul_le_mul (by omega) (by omega) (by omega) (by omega)
  omega
 have k:K*gF n<=K*(3437746*26000000):=Int.mul_le_mul_of_nonneg_left g (by omega)
 generalize K*gF n=w at*
 generalize z*S n-2^128*s n=u at*
 omega
theorem yQ (n:Nat) (hn:n<=4800002): -(zN*2^62)<=zN*iS n-2^128*sN n/\zN*iS n-2^128*sN n<=zN*2^62:=by
 have iz:=gA
 have e:((0:Nat):Int)=0:=rfl
 refine QO (fun n=>iS n) (fun n=>iC n) (fun n=>sN n) (fun n=>cN n) zN rD ?_ ?_ ?_ ?_ n hn
 ·rw [e,iz.1];decide+kernel
 ·rw [e,iz.2];decide+kernel
 ·intro n hn
  have b:=bG n
  unfold eJ at b
  rw [show ((n+1:Nat):Int)=(n:Int)+1 by omega]
  exact b
 ·intro n hn
  have b:=XV n (by omega) (by omega)
  rw [show ((n+1:Nat):Int)=(n:Int)+1 by omega]
  exact b
end Go.Proofs.YtdhbeoahpfimbaaGreat.Rot
namespace Go.Proofs.YtdhbeoahpfimbaaGreat
def f9 (x a e:Rat):Prop:=a-e<=x/\x<=a+e
theorem A6 {a b e f:Rat} (h1: -e<=a) (h2:a<=e) (h3: -f<=b) (h4:b<=f): -(e*f)<=a*b/\a*b<=e*f:=by
 have k1:=Rat.mul_nonneg (show 0<=e-a by grind) (show 0<=f+b by grind)
 have k2:=Rat.mul_nonneg (show 0<=e+a by grind) (show 0<=f-b by grind)
 have k3:=Rat.mul_nonneg (show 0<=e-a by grind) (show 0<=f-b by grind)
 have k4:=Rat.mul_nonneg (show 0<=e+a by grind) (show 0<=f+b by grind)
 constructor<;>grind
theorem Rg.bd (r:Rg) (n:Nat):(-1<=(r.C n).1/\(r.C n).1<=1)/\(-1<=(r.C n).2/\(r.C n).2<=1):=by
 have h:=r.one n
 have P:∀x y:Rat,x*x+y*y=1-> -1<=x/\x<=1:=by
  intro x y h
  have q:=x7 y
  constructor
  ·apply Classical.byContradiction
   intro k
   have:=Rat.mul_pos (a:= -1-x) (b:=1-x) (by grind) (by grind)
   grind
  ·apply Classical.byContradiction
   intro k
   have:=Rat.mul_pos (a:=x-1) (b:=x+1) (by grind) (by grind)
   grind
 exact ⟨P _ _ h,P _ (r.C n).1 (by grind)⟩
theorem Rg.double (r:Rg) (n:Nat) (a b e:Rat) (ha:f9 (r.C n).1 a e) (hb:f9 (r.C n).2 b e) (e0:0<=e) (e1:e<=1) (A B d:Rat) (hA:f9 A (a*a-b*b) d) (hB:f9 B (2*a*b) d):
  f9 (r.C (n+n)).1 A (8*e+d)/\f9 (r.C (n+n)).2 B (8*e+d):=by
 have s:=r.sum n n
 have q:=r.bd n
 rw [s.1,s.2]
 unfold f9 at*
 generalize (r.C n).1=x at*
 generalize (r.C n).2=y at*
 have e2:=Rat.mul_nonneg e0 (show 0<=1-e by grind)
 have p1:=A6 (a:=x-a) (b:=x+a) (e:=e) (f:=2+e) (by grind) (by grind) (by grind) (by grind)
 have p2:=A6 (a:=y-b) (b:=y+b) (e:=e) (f:=2+e) (by grind) (by grind) (by grind) (by grind)
 have p3:=A6 (a:=x-a) (b:=y) (e:=e) (f:=1) (by grind) (by grind) (by grind) (by grind)
 have p4:=A6 (a:=y-b) (b:=a) (e:=e) (f:=1+e) (by grind) (by grind) (by grind) (by grind)
 refine ⟨⟨?_,?_⟩,?_,?_⟩<;>grind
def fT:Int:=1613073841089076128760650912134956898858462568355000545682173492053257180986111574198177203942060108032973645135581839765699
def dbl (p:Int×Int):Int×Int:=((p.1*p.1-p.2*p.2)/2^512,2*p.1*p.2/2^512)
def iG:Nat->Int×Int->Int×Int
 |0,p=>p
 |n+1,p=>iG n (dbl p)
def p0:Int×Int:=((2^1024-fT*fT)*2^512/(2^1024+fT*fT),2*fT*2^1024/(2^1024+fT*fT))
def fR:Rg where
 c:=(2^1024-(fT:Rat)*fT)/(2^1024+(fT:Rat)*fT)
 s:=2*(fT:Rat)*2^512/(2^1024+(fT:Rat)*fT)
 h:=by
  have q:=x7 (fT:Rat)
  generalize (fT:Rat)=t at*
  have d:(2:Rat)^1024+t*t≠0:=by
   have:(0:Rat)<2^1024:=by decide+kernel
   grind
  have e:(2:Rat)^512*2^512=2^1024:=by decide+kernel
  generalize (2:Rat)^1024=W at*
  generalize (2:Rat)^512=V at*
  have a1:(W-t*t)/(W+t*t)*(W+t*t)=W-t*t:=Rat.div_mul_cancel d
  have a2:2*t*V/(W+t*t)*(W+t*t)=2*t*V:=Rat.div_mul_cancel d
  generalize (W-t*t)/(W+t*t)=x at*
  generalize 2*t*V/(W+t*t)=y at*
  have f:(x*x+y*y-1)*((W+t*t)*(W+t*t))=0:=by
   have g:(x*x+y*y-1)*((W+t*t)*(W+t*t))=(x*(W+t*t))*(x*(W+t*t))+(y*(W+t*t))*(y*(W+t*t))-(W+t*t)*(W+t*t):=by grind
   rw [g,a1,a2]
   grind
  have p:0<(W+t*t)*(W+t*t):=by
   rcases Rat.le_total (a:=0) (b:=W+t*t) with h|h
   ·exact Rat.mul_pos (by grind) (by grind)
   ·have:=Rat.mul_pos (a:= -(W+t*t)) (b:= -(W+t*t)) (by grind) (by grind)
    grind
  have z1:=b8 p (show 0<=((W+t*t)*(W+t*t))*(x*x+y*y-1) by grind)
  have z2:=b8 p (show 0<=((W+t*t)*(W+t*t))* -(x*x+y*y-1) by grind)
  grind
theorem sL (V X:Int) (hV:0<V):f9 (((X/V:Int):Rat)/V) ((X:Rat)/(V*V)) (1/V):=by
 have h1:V*(X/V)<=X:=Int.mul_ediv_self_le (by omega)
 have h2:X<V*(X/V)+V:=Int.lt_mul_ediv_self_add hV
 generalize X/V=Q at*
 have g1:(V:Rat)*(Q:Rat)<=X:=by have:((V*Q:Int):Rat)<=(X:Rat):=Rat.intCast_le_intCast.mpr h1;push_cast at this;exact this
 have g2:(X:Rat)<=(V:Rat)*(Q:Rat)+V:=by have:(X:Rat)<=((V*Q+V:Int):Rat):=Rat.intCast_le_intCast.mpr (Int.le_of_lt h2);push_cast at this;exact this
 have p:(0:Rat)<V:=by have:((0:Int):Rat)<(V:Rat):=Rat.intCast_lt_intCast.mpr hV;exact_mod_cast this
 generalize (V:Rat)=v at*
 generalize (X:Rat)=x at*
 generalize (Q:Rat)=k at*
 have p2:=Rat.mul_pos p p
 have a1:k/v*v=k:=Rat.div_mul_cancel (by grind)
 have a2:x/(v*v)*(v*v)=x:=Rat.div_mul_cancel (by grind)
 have a3:1/v*v=1:=Rat.div_mul_cancel (by grind)
 unfold f9
 generalize k/v=q at*
 generalize x/(v*v)=y at*
 generalize 1/v=d at*
 constructor
 ·have e:(v*v)*(q-(y-d))=v*(q*v)-y*(v*v)+v*(d*v):=by grind
  rw [a1,a2,a3] at e
  have:=b8 p2 (show 0<=(v*v)*(q-(y-d)) by grind)
  grind
 ·have e:(v*v)*((y+d)-q)=y*(v*v)+v*(d*v)-v*(q*v):=by grind
  rw [a1,a2,a3] at e
  have:=b8 p2 (show 0<=(v*v)*((y+d)-q) by grind)
  grind
theorem WH (r:Rg) (n:Nat) (p:Int×Int) (V:Int) (hV:0<V) (e:Rat) (e0:0<=e) (e1:e<=1) (ha:f9 (r.C n).1 ((p.1:Rat)/V) e) (hb:f9 (r.C n).2 ((p.2:Rat)/V) e):
  f9 (r.C (n+n)).1 ((((p.1*p.1-p.2*p.2)/V:Int):Rat)/V) (8*e+1/V)/\f9 (r.C (n+n)).2 (((2*p.1*p.2/V:Int):Rat)/V) (8*e+1/V):=by
 have f1:=sL V (p.1*p.1-p.2*p.2) hV
 have f2:=sL V (2*p.1*p.2) hV
 have q:(0:Rat)<V:=by have:((0:Int):Rat)<(V:Rat):=Rat.intCast_lt_intCast.mpr hV;exact_mod_cast this
 refine r.double n _ _ e ha hb e0 e1 _ _ (1/V) ?_ ?_
 ·have:((p.1*p.1-p.2*p.2:Int):Rat)/((V:Rat)*V)=(p.1:Rat)/V*((p.1:Rat)/V)-(p.2:Rat)/V*((p.2:Rat)/V):=by push_cast;grind
  rw [<-this];exact f1
 ·have:((2*p.1*p.2:Int):Rat)/((V:Rat)*V)=2*((p.1:Rat)/V)*((p.2:Rat)/V):=by push_cast;grind
  rw [<-this];exact f2
def wV:Int:=2^512
theorem TV (n:Nat) (p:Int×Int):iG (n+1) p=dbl (iG n p):=by
 induction n generalizing p with
 |zero=>rfl
 |succ n ih=>show iG (n+1) (dbl p)=_;rw [ih];rfl
theorem YX:0<wV:=by decide+kernel
theorem a1L:(0:Rat)<(wV:Rat):=by decide+kernel
def eK (k:Nat):Rat:=(2*(8:Rat)^k-1)/wV
theorem XZ (k:Nat):8*eK k+1/wV<=eK (k+1):=by
 have p:=a1L
 unfold eK
 have a:(8:Rat)^(k+1)=8*(8:Rat)^k:=by rw [Rat.pow_succ];grind
 rw [a]
 have b:(0:Rat)<=(8:Rat)^k:=Rat.pow_nonneg (by decide)
 generalize (8:Rat)^k=x at*
 generalize (wV:Rat)=v at*
 have e:(2*(8*x)-1)/v-(8*((2*x-1)/v)+1/v)=6/v:=by grind
 have f:0<=6/v:=by rw [Rat.div_def];exact Rat.mul_nonneg (by decide) (Rat.le_of_lt (Rat.inv_pos.2 p))
 grind
theorem a11:∀k,k<=80->0<=eK k/\eK k<=1:=by decide+kernel
theorem L5 {x a e f:Rat} (h:f9 x a e) (k:e<=f):f9 x a f:=by unfold f9 at*;constructor<;>grind
theorem a2S:f9 (fR.C 1).1 ((p0.1:Rat)/wV) (eK 0)/\f9 (fR.C 1).2 ((p0.2:Rat)/wV) (eK 0):=by
 have a:(fR.C 1).1=fR.c:=by simp only [Rg.C];grind
 have b:(fR.C 1).2=fR.s:=by simp only [Rg.C];grind
 rw [a,b]
 unfold f9
 decide+kernel
theorem after (k:Nat) (hk:k<=80):f9 (fR.C (2^k)).1 (((iG k p0).1:Rat)/wV) (eK k)/\f9 (fR.C (2^k)).2 (((iG k p0).2:Rat)/wV) (eK k):=by
 induction k with
 |zero=>exact a2S
 |succ k ih=>
  have h:=ih (by omega)
  have e:=a11 k (by omega)
  have d:=WH fR (2^k) (iG k p0) wV YX (eK k) e.1 e.2 h.1 h.2
  have n:=XZ k
  rw [TV,show 2^(k+1)=2^k+2^k by rw [Nat.pow_succ];omega]
  exact ⟨L5 d.1 n,L5 d.2 n⟩
def uW:Nat:=2^80
theorem nH:f9 (2^128*(fR.C uW).1) 340282366920924066805512056100497561939 4/\f9 (2^128*(fR.C uW).2) 98984128154162191825446416122235 4:=by
 have a:=after 80 (by decide)
 have e:eK 80<=1/2^128:=by decide+kernel
 have q1:((340282366920924066805512056100497561939:Int):Rat)-2<=2^128*(((iG 80 p0).1:Rat)/wV)/\2^128*(((iG 80 p0).1:Rat)/wV)<=340282366920924066805512056100497561939+2:=by decide+kernel
 have q2:((98984128154162191825446416122235:Int):Rat)-2<=2^128*(((iG 80 p0).2:Rat)/wV)/\2^128*(((iG 80 p0).2:Rat)/wV)<=98984128154162191825446416122235+2:=by decide+kernel
 have f:(2:Rat)^128*(1/2^128)=1:=by decide+kernel
 have t:(0:Rat)<=2^128:=by decide+kernel
 change f9 (fR.C uW).1 _ _/\f9 (fR.C uW).2 _ _ at a
 unfold f9 at*
 generalize (fR.C uW).1=x at*
 generalize (fR.C uW).2=y at*
 generalize ((iG 80 p0).1:Rat)/wV=u at*
 generalize ((iG 80 p0).2:Rat)/wV=v at*
 generalize eK 80=z at*
 have h1:=Rat.mul_le_mul_of_nonneg_left a.1.1 t
 have h2:=Rat.mul_le_mul_of_nonneg_left a.1.2 t
 have h3:=Rat.mul_le_mul_of_nonneg_left a.2.1 t
 have h4:=Rat.mul_le_mul_of_nonneg_left a.2.2 t
 have h5:=Rat.mul_le_mul_of_nonneg_left e t
 generalize (2:Rat)^128=T at*
 generalize (1/T:Rat)=I at*
 push_cast at*
 constructor<;>constructor<;>grind
open Rot
theorem R7 {a b:Int} (h:(a:Rat)<=b):a<=b:=Rat.intCast_le_intCast.1 h
theorem v6 {a b:Int} (h:a<=b):(a:Rat)<=b:=Rat.intCast_le_intCast.2 h
theorem UU (t:Rat):f9 (t.floor:Rat) t 1:=by
 have a:=Rat.floor_le t
 have b:=Rat.lt_floor (x:=t)
 unfold f9
 constructor<;>grind
theorem JT (T p q x y F G H:Rat) (hT:0<=T) (hp:f9 (T*p) 340282366920924066805512056100497561939 4) (hq:f9 (T*q) 98984128154162191825446416122235 4) (hx: -1<=x/\x<=1) (hy: -1<=y/\y<=1)
  (hF:f9 F (T*x) 1) (hG:f9 G (T*y) 1) (hH:f9 H (T*(x*p+y*q)) 1):
  f9 (T*H) (340282366920924066805512056100497561939*F+98984128154162191825446416122235*G) (9*T+340282366920924066805512056100497561939+98984128154162191825446416122235):=by
 unfold f9 at*
 have a1:=A6 (a:=T*x) (b:=T*p-340282366920924066805512056100497561939) (e:=T) (f:=4) (by have:=Rat.mul_nonneg hT (show 0<=1+x by grind);grind) (by have:=Rat.mul_nonneg hT (show 0<=1-x by grind);grind) (by grind) (by grind)
 have a2:=A6 (a:=T*y) (b:=T*q-98984128154162191825446416122235) (e:=T) (f:=4) (by have:=Rat.mul_nonneg hT (show 0<=1+y by grind);grind) (by have:=Rat.mul_nonneg hT (show 0<=1-y by grind);grind) (by grind) (by grind)
 have b1:=Rat.mul_le_mul_of_nonneg_left hH.1 hT
 have b2:=Rat.mul_le_mul_of_nonneg_left hH.2 hT
 constructor<;>grind
def fS (n:Nat):Int:=(2^128*(fR.C (uW*n)).2).floor
def fC (n:Nat):Int:=(2^128*(fR.C (uW*n)).1).floor
theorem CK (n:Nat):f9 (fC n:Rat) (2^128*(fR.C (uW*n)).1) 1/\f9 (fS n:Rat) (2^128*(fR.C (uW*n)).2) 1:=⟨UU _,UU _⟩
theorem a1B (n:Nat):f9 (2^128*(fS (n+1):Rat)) (340282366920924066805512056100497561939*fS n+98984128154162191825446416122235*fC n) (2^132)/\f9 (2^128*(fC (n+1):Rat)) (340282366920924066805512056100497561939*fC n-98984128154162191825446416122235*fS n) (2^132):=by
 have s:=fR.sum (uW*n) uW
 rw [show uW*n+uW=uW*(n+1) by rw [Nat.mul_succ]] at s
 have u:=nH
 have b:=fR.bd (uW*n)
 have f:=CK n
 have g:=CK (n+1)
 have t:(0:Rat)<=2^128:=by decide+kernel
 have big:9*(2:Rat)^128+340282366920924066805512056100497561939+98984128154162191825446416122235<=2^132:=by decide+kernel
 rw [s.1,s.2] at g
 generalize (fR.C (uW*n)).1=x at*
 generalize (fR.C (uW*n)).2=y at*
 generalize (fR.C uW).1=p at*
 generalize (fR.C uW).2=q at*
 generalize (fS (n+1):Rat)=S' at*
 generalize (fC (n+1):Rat)=C' at*
 generalize (fS n:Rat)=S at*
 generalize (fC n:Rat)=C at*
 generalize (2:Rat)^128=T at*
 constructor
 ·exact L5 (JT T p q y x _ _ _ t u.1 u.2 b.2 b.1 f.2 f.1 g.2) big
 ·have h:=JT T p q x (-y) C (-S) C' t u.1 u.2 b.1 (by grind) f.1 (by unfold f9 at*;grind) (by unfold f9 at*;grind)
  have e:340282366920924066805512056100497561939*C-98984128154162191825446416122235*S=340282366920924066805512056100497561939*C+98984128154162191825446416122235* -S:=by grind
  rw [e]
  exact L5 h big
theorem RM:fS 0=0/\fC 0=2^128:=by decide+kernel
theorem ZE (n:Nat):((340282366920924066805512056100497561939*fS n+98984128154162191825446416122235*fC n-2^132<=2^128*fS (n+1))/\2^128*fS (n+1)<=340282366920924066805512056100497561939*fS n+98984128154162191825446416122235*fC n+2^132)/\
  (340282366920924066805512056100497561939*fC n-98984128154162191825446416122235*fS n-2^132<=2^128*fC (n+1))/\2^128*fC (n+1)<=340282366920924066805512056100497561939*fC n-98984128154162191825446416122235*fS n+2^132:=by
 have a:=a1B n
 unfold f9 at a
 refine ⟨⟨R7 ?_,R7 ?_⟩,R7 ?_,R7 ?_⟩<;>push_cast
 ·exact a.1.1
 ·exact a.1.2
 ·exact a.2.1
 ·exact a.2.2
theorem a26 (S C:Nat->Int) (S0:S 0=0) (C0:C 0=2^128) (hs:∀n,((340282366920924066805512056100497561939*S n+98984128154162191825446416122235*C n-2^132<=2^128*S (n+1))/\2^128*S (n+1)<=340282366920924066805512056100497561939*S n+98984128154162191825446416122235*C n+2^132)/\
  (340282366920924066805512056100497561939*C n-98984128154162191825446416122235*S n-2^132<=2^128*C (n+1))/\2^128*C (n+1)<=340282366920924066805512056100497561939*C n-98984128154162191825446416122235*S n+2^132) (n:Nat) (hn:n<=5400000):
  (-(2^54)<=S n-iS n/\S n-iS n<=2^54)/\(-(2^54)<=C n-iC n/\C n-iC n<=2^54):=by
 have iz:=gA
 have z1:S 0-iS ((0:Nat):Int)=0:=by
   have e:((0:Nat):Int)=0:=rfl
   rw [e];omega
 have z2:C 0-iC ((0:Nat):Int)=0:=by
   have e:((0:Nat):Int)=0:=rfl
   rw [e];omega
 obtain ⟨K,hK⟩:∃K:Int,K=2^157:=⟨_,rfl⟩
 have h:=oX (fun n=>S n-iS n) (fun n=>C n-iC n) K 5400000 (by omega) z1 z2 (by omega)
  (fun n hn=>by
   rw [show ((n+1:Nat):Int)=(n:Int)+1 by omega]
   have a:=(hs n).1
   have b:=bG n
   unfold eJ at b
   generalize iS ((n:Int)+1)=s1 at*
   generalize iC ((n:Int)+1)=c1 at*
   generalize iS (n:Int)=s0 at*
   generalize iC (n:Int)=c0 at*
   generalize S (n+1)=u1 at*
   generalize C (n+1)=v1 at*
   generalize S n=u0 at*
   generalize C n=v0 at*
   omega)
  (fun n hn=>by
   rw [show ((n+1:Nat):Int)=(n:Int)+1 by omega]
   have a:=(hs n).2
   have b:=bG n
   unfold eJ at b
   generalize iS ((n:Int)+1)=s1 at*
   generalize iC ((n:Int)+1)=c1 at*
   generalize iS (n:Int)=s0 at*
   generalize iC (n:Int)=c0 at*
   generalize S (n+1)=u1 at*
   generalize C (n+1)=v1 at*
   generalize S n=u0 at*
   generalize C n=v0 at*
   omega) n hn
 have g:gF n<=3437746*31000000:=by
  unfold gF
  have:(n:Int)*(3437746+3*n)<=5400000*(3437746+3*5400000):=Int.mul_le_mul (by omega) (by omega) (by omega) (by omega)
  omega
 have k:K*gF n<=K*(3437746*31000000):=Int.mul_le_mul_of_nonneg_left g (by omega)
 generalize K*gF n=w at*
 generalize S n-iS n=u at*
 generalize C n-iC n=v at*
 omega
theorem a0l (n:Nat) (hn:n<=5400000):(-(2^54)<=fS n-iS n/\fS n-iS n<=2^54)/\(-(2^54)<=fC n-iC n/\fC n-iC n<=2^54):=a26 fS fC RM.1 RM.2 ZE n hn
def gN (n:Int) (e:Rat):Prop:=f9 (2^128*fR.c' (uW*n)) (iC n) e/\f9 (2^128*fR.s' (uW*n)) (iS n) e
theorem uF {n:Int} {e f:Rat} (h:gN n e) (k:e<=f):gN n f:=⟨L5 h.1 k,L5 h.2 k⟩
theorem cC (n:Nat) (hn:n<=5400000):gN n (2^55):=by
 have a:=a0l n hn
 have b:=CK n
 have z:=fR.z_nat (uW*n)
 unfold gN
 rw [show ((uW:Int)*(n:Int))=((uW*n:Nat):Int) by push_cast;rfl,z.1,z.2]
 have c1:((fC n-2^54:Int):Rat)<=iC n:=v6 (by omega)
 have c2:(iC n:Rat)<=((fC n+2^54:Int):Rat):=v6 (by omega)
 have c3:((fS n-2^54:Int):Rat)<=iS n:=v6 (by omega)
 have c4:(iS n:Rat)<=((fS n+2^54:Int):Rat):=v6 (by omega)
 push_cast at c1 c2 c3 c4
 unfold f9 at*
 have k:(2:Rat)^54+1<=2^55:=by decide+kernel
 generalize (fR.C (uW*n)).1=x at*
 generalize (fR.C (uW*n)).2=y at*
 constructor<;>constructor<;>grind
theorem PX (n:Int):iS (-n)= -iS n:=by
 by_cases z:n%21600000=0\/n%21600000=10800000
 ·have a:oL n=0:=by unfold oL;rcases z with z|z<;>rw [z]<;>rfl
  have b:oL (-n)=0:=by
   have:(-n)%21600000=0\/(-n)%21600000=10800000:=by omega
   unfold oL;rcases this with z|z<;>rw [z]<;>rfl
  have g:=lB
  unfold iS
  rw [a,b,g]
  split<;>split<;>rfl
 ·have e:(-n)%21600000=21600000-n%21600000:=by omega
  have r:oL (-n)=oL n:=by
   unfold oL
   rw [e]
   split<;>split<;>split<;>(try split)<;>omega
  unfold iS
  rw [r,e]
  by_cases h:10800000<n%21600000
  ·rw [if_neg (by omega),if_pos h,Int.neg_neg]
  ·rw [if_pos (by omega),if_neg h]
theorem a1y (n:Int):iC (-n)=iC n:=by
 unfold iC
 have a:=PX (n-5400000)
 have b:=uR (n-5400000)
 rw [show -n+5400000= -(n-5400000) by omega,a,show n+5400000=n-5400000+10800000 by omega,b]
theorem a2h {n:Int} {e:Rat} (h:gN n e):gN (-n) e:=by
 unfold gN at*
 have z:=fR.z_neg (uW*n)
 rw [PX,a1y,show (uW:Int)* -n= -(uW*n) by rw [Int.mul_neg],z.1,z.2]
 unfold f9 at*
 push_cast
 generalize fR.s' (uW*n)=y at*
 refine ⟨h.1,?_,?_⟩<;>grind
theorem iV {T u v a b e f:Rat} (hT:0<=T) (hu:f9 (T*u) a e) (hv:f9 (T*v) b f) (u1: -1<=u/\u<=1) (b1: -T<=b/\b<=T):f9 (T*(T*(u*v))) (a*b) (T*e+T*f):=by
 unfold f9 at*
 have p1:=A6 (a:=T*u-a) (b:=b) (e:=e) (f:=T) (by grind) (by grind) b1.1 b1.2
 have p2:=A6 (a:=T*u) (b:=T*v-b) (e:=T) (f:=f) (by have:=Rat.mul_nonneg hT (show 0<=1+u by grind);grind) (by have:=Rat.mul_nonneg hT (show 0<=1-u by grind);grind) (by grind) (by grind)
 constructor<;>grind
theorem Rg.z_bd (r:Rg) (n:Int):(-1<=r.c' n/\r.c' n<=1)/\(-1<=r.s' n/\r.s' n<=1):=by
 have b:=r.bd n.natAbs
 unfold Rg.c' Rg.s'
 refine ⟨b.1,?_⟩
 split
 ·exact b.2
 ·constructor<;>grind
theorem FW {a b:Int} {e f:Rat} (ha:gN a e) (hb:gN b f):gN (a+b) (2*e+2*f+2^56):=by
 have s:=YM a b
 have z:=fR.z_sum (uW*a) (uW*b)
 have za:=fR.z_bd (uW*a)
 have ib:=a1l b
 have c1:=v6 ib.1.1
 have c2:=v6 ib.1.2
 have c3:=v6 ib.2.1
 have c4:=v6 ib.2.2
 have t:(0:Rat)<2^128:=by decide+kernel
 have t0:=Rat.le_of_lt t
 have s1:=v6 s.1.1
 have s2:=v6 s.1.2
 have s3:=v6 s.2.1
 have s4:=v6 s.2.2
 have k:(2:Rat)^128*2^56=2^184:=by decide+kernel
 have e128:(2:Rat)^128=340282366920938463463374607431768211456:=by decide+kernel
 have e184:(2:Rat)^184=24519928653854221733733552434404946937899825954937634816:=by decide+kernel
 push_cast at c1 c2 c3 c4 s1 s2 s3 s4
 unfold gN at*
 rw [show (uW:Int)*(a+b)=uW*a+uW*b by rw [Int.mul_add],z.1,z.2]
 generalize fR.c' (uW*a)=x at*
 generalize fR.s' (uW*a)=y at*
 generalize fR.c' (uW*b)=u at*
 generalize fR.s' (uW*b)=v at*
 have p1:=iV t0 ha.1 hb.1 za.1 ⟨c3,c4⟩
 have p2:=iV t0 ha.2 hb.2 za.2 ⟨c1,c2⟩
 have p3:=iV t0 ha.2 hb.1 za.2 ⟨c3,c4⟩
 have p4:=iV t0 ha.1 hb.2 za.1 ⟨c1,c2⟩
 generalize (iC (a+b):Rat)=A at*
 generalize (iS (a+b):Rat)=B at*
 generalize (iC a:Rat)=C at*
 generalize (iS a:Rat)=D at*
 generalize (iC b:Rat)=F at*
 generalize (iS b:Rat)=G at*
 rw [<-e128] at c1 c2 c3 c4 s1 s2 s3 s4
 rw [<-e184,<-k] at s1 s2 s3 s4
 clear k e128 e184
 generalize (2:Rat)^56=Z at*
 generalize (2:Rat)^128=T at*
 unfold f9 at*
 clear za ha hb c1 c2 c3 c4 ib s z
 have fin:∀m:Rat,0<=T*m->0<=m:=fun m h=>b8 t h
 refine ⟨⟨?_,?_⟩,?_,?_⟩
 ·have:=fin (T*(x*u-y*v)-(A-(2*e+2*f+Z))) (by grind);grind
 ·have:=fin (A+(2*e+2*f+Z)-T*(x*u-y*v)) (by grind);grind
 ·have:=fin (T*(y*u+x*v)-(B-(2*e+2*f+Z))) (by grind);grind
 ·have:=fin (B+(2*e+2*f+Z)-T*(y*u+x*v)) (by grind);grind
theorem qB (n:Int) (h:n.natAbs<=43200000):gN n (2^64):=by
 have P1:∀n:Int,n.natAbs<=5400000->gN n (2^55):=fun n h=>by
  by_cases g:0<=n
  ·have:=cC n.toNat (by omega)
   rwa [show ((n.toNat:Nat):Int)=n by omega] at this
  ·have:=a2h (cC (-n).toNat (by omega))
   rwa [show -(((-n).toNat:Nat):Int)=n by omega] at this
 have P2:∀n:Int,n.natAbs<=10800000->gN n (2^58):=fun n h=>by
  have:=FW (P1 (n/2) (by omega)) (P1 (n-n/2) (by omega))
  rw [show n/2+(n-n/2)=n by omega] at this
  exact uF this (by decide+kernel)
 have P3:∀n:Int,n.natAbs<=21600000->gN n (2^61):=fun n h=>by
  have:=FW (P2 (n/2) (by omega)) (P2 (n-n/2) (by omega))
  rw [show n/2+(n-n/2)=n by omega] at this
  exact uF this (by decide+kernel)
 have:=FW (P3 (n/2) (by omega)) (P3 (n-n/2) (by omega))
 rw [show n/2+(n-n/2)=n by omega] at this
 exact uF this (by decide+kernel)
def dM (t:Nat->Rat):Nat->Nat->Rat
 |0,_=>0
 |k+1,m=>t m-dM t k (m+1)
theorem QA {t u:Nat->Rat} {e:Rat} (h:∀j,f9 (t j) (u j) e) (k m:Nat):f9 (dM t k m) (dM u k m) (k*e):=by
 induction k generalizing m with
 |zero=>unfold f9;simp only [dM];constructor<;>grind
 |succ k ih=>
  have a:=ih (m+1)
  have b:=h m
  unfold f9 at*
  simp only [dM]
  have e1:((k+1:Nat):Rat)*e=k*e+e:=by push_cast;grind
  rw [e1]
  constructor<;>grind
theorem a1v {t:Nat->Rat} (h0:∀j,0<=t j) (h1:∀j,t (j+1)<=t j) (k m:Nat):0<=dM t k m/\dM t k m<=t m:=by
 induction k generalizing m with
 |zero=>simp only [dM];exact ⟨Rat.le_refl,h0 m⟩
 |succ k ih=>
  have a:=ih (m+1)
  have b:=h1 m
  simp only [dM]
  constructor<;>grind
theorem RA {t:Nat->Rat} (h0:∀j,0<=t j) (h1:∀j,t (j+1)<=t j) (k a m:Nat):f9 (dM t (a+k) m) (dM t a m) (t (m+a)):=by
 induction a generalizing m with
 |zero=>
  have b:=a1v h0 h1 k m
  have c:=h0 m
  rw [Nat.zero_add,Nat.add_zero]
  unfold f9
  simp only [dM]
  constructor<;>grind
 |succ a ih=>
  have b:=ih (m+1)
  rw [show a+1+k=a+k+1 by omega,show m+(a+1)=m+1+a by omega]
  unfold f9 at*
  simp only [dM]
  constructor<;>grind
def dQ (o j:Nat):Rat:=(2*(j:Rat)+1+o)*(2*(j:Rat)+2+o)
def aR (x0 x2:Rat) (o:Nat):Nat->Rat
 |0=>x0
 |j+1=>aR x0 x2 o j*x2/dQ o j
theorem KE (o j:Nat) (ho:o=0\/o=1):2+4*(o:Rat)<=dQ o j:=by
 have j0:(0:Rat)<=j:=by exact_mod_cast Nat.zero_le j
 have q:=Rat.mul_nonneg j0 j0
 unfold dQ
 rcases ho with h|h<;>subst h<;>push_cast<;>generalize (j:Rat)=J at* <;>grind
theorem R6 (X V:Int) (hV:0<V):((X/V:Int):Rat)*V<=X/\(X:Rat)<=((X/V:Int):Rat)*V+V:=by
 have h1:X/V*V<=X:=Int.ediv_mul_le X (by omega)
 have h2:X<(X/V)*V+V:=by have:=Int.lt_mul_ediv_self_add (x:=X) hV;rw [Int.mul_comm (X/V) V];exact this
 have a:=v6 h1
 have b:=v6 (Int.le_of_lt h2)
 push_cast at a b
 exact ⟨a,b⟩
def N4 (x sq:Int) (o:Nat):Nat->Int
 |0=>x
 |j+1=>N4 x sq o j*sq/2^192/((2*(j:Int)+1+o)*(2*(j:Int)+2+o))
theorem OT {V t s y d T X2 b m:Rat} (hV:1000<=V) (hd:2<=d) (T0:0<=T) (T1:T<=m) (X0:0<=X2) (X1:X2<=b) (ht:f9 t (V*T) 12) (hs:f9 s (V*X2) 8)
  (hb:12*b+8*m+4+d<=12*d) (hy:y*(V*d)<=t*s/\t*s<=y*(V*d)+(V*d)+V):f9 y (V*(T*X2/d)) 12:=by
 have V0:0<V:=by grind
 have d0:0<d:=by grind
 obtain ⟨z,hz⟩:∃z,z=T*X2/d:=⟨_,rfl⟩
 have zd:z*d=T*X2:=by rw [hz];exact Rat.div_mul_cancel (by grind)
 rw [<-hz]
 unfold f9 at*
 have p1:=A6 (a:=t-V*T) (b:=s-V*X2) (e:=12) (f:=8) (by grind) (by grind) (by grind) (by grind)
 have q1:=Rat.mul_nonneg (Rat.mul_nonneg (Rat.le_of_lt V0) T0) (show 0<=8-(s-V*X2) by grind)
 have q2:=Rat.mul_nonneg (Rat.mul_nonneg (Rat.le_of_lt V0) T0) (show 0<=8+(s-V*X2) by grind)
 have q3:=Rat.mul_nonneg (Rat.mul_nonneg (Rat.le_of_lt V0) X0) (show 0<=12-(t-V*T) by grind)
 have q4:=Rat.mul_nonneg (Rat.mul_nonneg (Rat.le_of_lt V0) X0) (show 0<=12+(t-V*T) by grind)
 have q5:=Rat.mul_nonneg (Rat.le_of_lt V0) (show 0<=m-T by grind)
 have q6:=Rat.mul_nonneg (Rat.le_of_lt V0) (show 0<=b-X2 by grind)
 have q7:=Rat.mul_nonneg (Rat.le_of_lt V0) (show 0<=12*d-(12*b+8*m+4+d) by grind)
 have e1:V*z*(V*d)=V*T*(V*X2):=by
  have:V*z*(V*d)=V*V*(z*d):=by grind
  rw [this,zd];grind
 have lo:V*T*(V*X2)-12*(V*b)-8*(V*m)-96<=t*s:=by grind
 have hi:t*s<=V*T*(V*X2)+12*(V*b)+8*(V*m)+96:=by grind
 have Vd:=Rat.mul_pos V0 d0
 clear q1 q2 q3 q4 q5 q6 p1
 constructor
 ·have k:0<=(V*d)*(y-(V*z-12)):=by
   have:(V*d)*(y-(V*z-12))=y*(V*d)-V*z*(V*d)+12*(V*d):=by grind
   rw [this,e1]
   grind
  have:=b8 Vd k
  grind
 ·have k:0<=(V*d)*(V*z+12-y):=by
   have:(V*d)*(V*z+12-y)=V*z*(V*d)-y*(V*d)+12*(V*d):=by grind
   rw [this,e1]
   grind
  have:=b8 Vd k
  grind
theorem UD (x sq:Int) (o:Nat) (X0 X2:Rat) (ho:o=0\/o=1) (a0:0<=X0) (a1:X0<=1+(o:Rat)/2) (b0:0<=X2) (b1:X2<=3/4+5/4*(o:Rat)) (hx:f9 x (2^192*X0) 12) (hs:f9 sq (2^192*X2) 8) (j:Nat):
  f9 (N4 x sq o j) (2^192*aR X0 X2 o j) 12/\0<=aR X0 X2 o j/\aR X0 X2 o (j+1)<=aR X0 X2 o j/\aR X0 X2 o j<=1+(o:Rat)/2:=by
 have fall:∀j,0<=aR X0 X2 o j->0<=aR X0 X2 o (j+1)/\aR X0 X2 o (j+1)<=aR X0 X2 o j:=fun j h=>by
  have d:=KE o j ho
  have e:aR X0 X2 o (j+1)*dQ o j=aR X0 X2 o j*X2:=Rat.div_mul_cancel (by rcases ho with h|h<;>subst h<;>grind)
  have p:=Rat.mul_nonneg h b0
  have q:=Rat.mul_nonneg h (show 0<=dQ o j-X2 by rcases ho with h|h<;>subst h<;>grind)
  have d0:0<dQ o j:=by rcases ho with h|h<;>subst h<;>grind
  have r1:=b8 d0 (show 0<=dQ o j*aR X0 X2 o (j+1) by grind)
  have r2:=b8 d0 (show 0<=dQ o j*(aR X0 X2 o j-aR X0 X2 o (j+1)) by grind)
  grind
 induction j with
 |zero=>exact ⟨hx,a0,(fall 0 a0).2,a1⟩
 |succ j ih=>
  have f:=fall j ih.2.1
  have f2:=fall (j+1) f.1
  refine ⟨?_,f.1,f2.2,by grind⟩
  have d:=KE o j ho
  have dI:0<(2*(j:Int)+1+o)*(2*(j:Int)+2+o):=Int.mul_pos (by omega) (by omega)
  have dc:(((2*(j:Int)+1+o)*(2*(j:Int)+2+o):Int):Rat)=dQ o j:=by unfold dQ;push_cast;rfl
  have e1:=R6 (N4 x sq o j*sq) (2^192) (by decide)
  have e2:=R6 (N4 x sq o j*sq/2^192) _ dI
  rw [dc] at e2
  have vc:((2^192:Int):Rat)=2^192:=by decide+kernel
  rw [vc] at e1
  have mc:((N4 x sq o j*sq:Int):Rat)=(N4 x sq o j:Rat)*sq:=by push_cast;rfl
  rw [mc] at e1
  have big:(1000:Rat)<=2^192:=by decide+kernel
  have t:=ih.1
  change f9 (((N4 x sq o j*sq/2^192/((2*(j:Int)+1+o)*(2*(j:Int)+2+o)):Int)):Rat) (2^192*(aR X0 X2 o j*X2/dQ o j)) 12
  generalize ((N4 x sq o j*sq/2^192/((2*(j:Int)+1+o)*(2*(j:Int)+2+o)):Int):Rat)=y at*
  generalize ((N4 x sq o j*sq/2^192:Int):Rat)=u at*
  generalize (N4 x sq o j:Rat)=v at*
  generalize (2:Rat)^192=V at*
  refine OT (b:=3/4+5/4*(o:Rat)) (m:=1+(o:Rat)/2) big (by rcases ho with h|h<;>subst h<;>grind) ih.2.1 ih.2.2.2 b0 b1 t hs (by rcases ho with h|h<;>subst h<;>grind) ?_
  have g1:=Rat.mul_le_mul_of_nonneg_left e2.1 (show 0<=V by grind)
  have g2:=Rat.mul_le_mul_of_nonneg_left e2.2 (show 0<=V by grind)
  constructor<;>grind
def F0 (n:Nat):Rat:=((aD*n:Int):Rat)/bN
theorem CZ:(0:Rat)<(bN:Rat):=by decide+kernel
theorem a16 (o n:Nat) (x0:Rat) (ho:o=0\/o=1) (j:Nat) (hj:j<=12):
  dM (aR x0 (F0 n*F0 n) o) (j+1) (12-j)*(qN o j:Rat)=aR x0 (F0 n*F0 n) o (12-j)*((qN o j:Rat)-(aN o n j:Rat)):=by
 induction j with
 |zero=>
  have a:(qN o 0:Rat)=1:=rfl
  have b:(aN o n 0:Rat)=0:=rfl
  simp only [dM]
  rw [a,b]
  grind
 |succ j ih=>
  have h:=ih (by omega)
  obtain ⟨m,hm⟩:∃m,12-(j+1)=m:=⟨_,rfl⟩
  have hm2:12-j=m+1:=by omega
  rw [hm2] at h
  rw [hm]
  have d:=KE o m ho
  have d0:dQ o m≠0:=by rcases ho with h|h<;>subst h<;>grind
  have td:aR x0 (F0 n*F0 n) o (m+1)*dQ o m=aR x0 (F0 n*F0 n) o m*(F0 n*F0 n):=Rat.div_mul_cancel d0
  have qe:(qN o (j+1):Rat)=dQ o m*((bN:Rat)*bN)*(qN o j:Rat):=by
   have e:qN o (j+1)=dT o (12-j)*(bN*bN)*qN o j:=rfl
   have f:((dT (o:Int) (12-j):Int):Rat)=dQ o m:=by rw [hm2];unfold dT dQ;push_cast;grind
   rw [e];push_cast;rw [f]
  have ae:(aN o n (j+1):Rat)=((aD*n:Int):Rat)*((aD*n:Int):Rat)*((qN o j:Rat)-(aN o n j:Rat)):=by
   have e:aN o n (j+1)=(aD*n)*(aD*n)*(qN o j-aN o n j):=rfl
   rw [e,Rat.intCast_mul,Rat.intCast_mul,Rat.intCast_sub]
  have an:F0 n*(bN:Rat)=((aD*n:Int):Rat):=Rat.div_mul_cancel (by have:=CZ;grind)
  rw [show dM (aR x0 (F0 n*F0 n) o) (j+1+1) m=aR x0 (F0 n*F0 n) o m-dM (aR x0 (F0 n*F0 n) o) (j+1) (m+1) from rfl,qe,ae,<-an]
  clear ih qe ae an d
  generalize dM (aR x0 (F0 n*F0 n) o) (j+1) (m+1)=G at*
  generalize aR x0 (F0 n*F0 n) o (m+1)=T1 at*
  generalize aR x0 (F0 n*F0 n) o m=T0 at*
  generalize (qN o j:Rat)=q at*
  generalize (aN o n j:Rat)=a at*
  generalize F0 n=x at*
  generalize (bN:Rat)=b at*
  generalize dQ o m=d at*
  grind
theorem qT (o n:Nat) (x0:Rat) (ho:o=0\/o=1):dM (aR x0 (F0 n*F0 n) o) 13 0*(qN o 12:Rat)=x0*((qN o 12:Rat)-(aN o n 12:Rat)):=a16 o n x0 ho 12 (by omega)
def aP:Int:=3*2^192+888791491566496270888765094605269643156384531797986193872
def O8 (n:Nat):Int:=aP*n/10800000
def jQ (n:Nat):Int:=O8 n*O8 n/2^192
theorem a1C:aP*2^64<=aD/\aD<=aP*2^64+2^64:=by decide+kernel
theorem pW (n:Nat) (hn:n<=4800002):f9 (O8 n) (2^192*F0 n) 2/\0<=F0 n/\F0 n<=7/5/\(n<=2700000->F0 n<=4/5):=by
 have a:=R6 (aP*n) 10800000 (by decide)
 have p:=a1C
 have n0:(0:Rat)<=n:=by exact_mod_cast Nat.zero_le n
 have n1:(n:Rat)<=4800002:=by
   have:((n:Nat):Rat)<=((4800002:Nat):Rat):=Rat.natCast_le_natCast.2 hn
   exact this
 have p1:=v6 p.1
 have p2:=v6 p.2
 have pn:(aD:Rat)<=3.1416*2^256:=by decide+kernel
 have pn0:(0:Rat)<=(aD:Rat):=by decide+kernel
 have e:F0 n*(bN:Rat)=((aD*n:Int):Rat):=Rat.div_mul_cancel (by have:=CZ;grind)
 have be:(bN:Rat)=10800000*2^256:=by decide+kernel
 rw [be] at e
 have n2:n<=2700000->(n:Rat)<=2700000:=fun h=>by
  have:((n:Nat):Rat)<=((2700000:Nat):Rat):=Rat.natCast_le_natCast.2 h
  exact this
 change ((O8 n:Int):Rat)*(10800000:Rat)<=_/\_<=((O8 n:Int):Rat)*(10800000:Rat)+(10800000:Rat) at a
 have c1:((aP*2^64:Int):Rat)=(aP:Rat)*2^64:=by rw [Rat.intCast_mul];rfl
 have c2:((aP*2^64+2^64:Int):Rat)=(aP:Rat)*2^64+2^64:=by rw [Rat.intCast_add,c1];rfl
 have c3:((aP*n:Int):Rat)=(aP:Rat)*n:=by rw [Rat.intCast_mul];rfl
 have c4:((aD*n:Int):Rat)=(aD:Rat)*n:=by rw [Rat.intCast_mul];rfl
 rw [c1] at p1
 rw [c2] at p2
 rw [c3] at a
 rw [c4] at e
 have e64:(2:Rat)^256=2^192*2^64:=by decide+kernel
 rw [e64] at e pn
 have V0:(0:Rat)<2^192:=by decide+kernel
 have U0:(0:Rat)<2^64:=by decide+kernel
 have k1:=Rat.mul_nonneg n0 (show 0<=(aD:Rat)-(aP:Rat)*2^64 by grind)
 have k2:=Rat.mul_nonneg n0 (show 0<=(aP:Rat)*2^64+2^64-(aD:Rat) by grind)
 have k3:=Rat.mul_nonneg n0 (show 0<=3.1416*(2^192*2^64)-(aD:Rat) by grind)
 have k4:=Rat.mul_nonneg n0 pn0
 clear be c1 c2 c3 c4 e64 p p1 p2 pn
 unfold f9
 generalize (O8 n:Rat)=A at*
 generalize F0 n=X at*
 generalize (n:Rat)=N at*
 generalize (aD:Rat)=P at*
 generalize (aP:Rat)=R at*
 generalize (2:Rat)^192=V at*
 generalize (2:Rat)^64=U at*
 have UV:=Rat.mul_pos V0 U0
 have u1:=Rat.mul_nonneg (Rat.le_of_lt U0) (show 0<=4800002-N by grind)
 have i1:=Rat.mul_le_mul_of_nonneg_left a.1 (Rat.le_of_lt U0)
 have i2:=Rat.mul_le_mul_of_nonneg_left a.2 (Rat.le_of_lt U0)
 refine ⟨⟨?_,?_⟩,?_,?_,?_⟩
 ·have:=b8 U0 (show 0<=U*(A-(V*X-2)) by grind)
  grind
 ·have:=b8 U0 (show 0<=U*(V*X+2-A) by grind)
  grind
 ·exact b8 UV (by grind)
 ·have v1:=Rat.mul_nonneg (Rat.le_of_lt UV) (show 0<=4800002-N by grind)
  have:=b8 UV (show 0<=V*U*(7/5-X) by grind)
  grind
 ·intro h
  have h2:=n2 h
  have v1:=Rat.mul_nonneg (Rat.le_of_lt UV) (show 0<=2700000-N by grind)
  have:=b8 UV (show 0<=V*U*(4/5-X) by grind)
  grind
theorem GS (n:Nat) (hn:n<=4800002):f9 (jQ n) (2^192*(F0 n*F0 n)) 8:=by
 have a:=pW n hn
 have e:=R6 (O8 n*O8 n) (2^192) (by decide)
 have vc:((2^192:Int):Rat)=2^192:=by decide+kernel
 rw [vc] at e
 have mc:((O8 n*O8 n:Int):Rat)=(O8 n:Rat)*O8 n:=by rw [Rat.intCast_mul]
 rw [mc] at e
 change (jQ n:Rat)*2^192<=_/\_<=(jQ n:Rat)*2^192+2^192 at e
 have big:(1000:Rat)<=2^192:=by decide+kernel
 unfold f9 at*
 generalize (O8 n:Rat)=A at*
 generalize (jQ n:Rat)=S at*
 generalize F0 n=X at*
 generalize (2:Rat)^192=V at*
 have V0:0<V:=by grind
 have p1:=A6 (a:=A-V*X) (b:=A-V*X) (e:=2) (f:=2) (by grind) (by grind) (by grind) (by grind)
 have q1:=Rat.mul_nonneg (Rat.mul_nonneg (Rat.le_of_lt V0) a.2.1) (show 0<=2-(A-V*X) by grind)
 have q2:=Rat.mul_nonneg (Rat.mul_nonneg (Rat.le_of_lt V0) a.2.1) (show 0<=2+(A-V*X) by grind)
 have q3:=Rat.mul_nonneg (Rat.le_of_lt V0) (show 0<=7/5-X by grind)
 constructor
 ·have:=b8 V0 (show 0<=V*(S-(V*(X*X)-8)) by grind)
  grind
 ·have:=b8 V0 (show 0<=V*(V*(X*X)+8-S) by grind)
  grind
def iA (o:Nat):Nat->Rat
 |0=>1
 |j+1=>iA o j*dQ o j
theorem a2d (X0 X2:Rat) (o j:Nat) (ho:o=0\/o=1) (a0:0<=X0) (a1:X0<=3/2) (b0:0<=X2) (b1:X2<=2):0<=aR X0 X2 o j/\0<iA o j/\aR X0 X2 o j*iA o j<=3/2*(2:Rat)^j:=by
 induction j with
 |zero=>simp only [aR,iA,Rat.pow_zero];exact ⟨a0,by decide,by grind⟩
 |succ j ih=>
  have d:=KE o j ho
  have d0:0<dQ o j:=by rcases ho with h|h<;>subst h<;>grind
  have e:aR X0 X2 o (j+1)*dQ o j=aR X0 X2 o j*X2:=Rat.div_mul_cancel (by grind)
  have p:=Rat.mul_nonneg ih.1 b0
  have q:=Rat.mul_pos ih.2.1 d0
  have r:=Rat.mul_nonneg (Rat.mul_nonneg ih.1 (Rat.le_of_lt ih.2.1)) (show 0<=2-X2 by grind)
  have pe:iA o (j+1)=iA o j*dQ o j:=rfl
  rw [pe,Rat.pow_succ]
  generalize aR X0 X2 o (j+1)=T1 at*
  generalize aR X0 X2 o j=T0 at*
  generalize iA o j=P at*
  generalize dQ o j=D at*
  generalize (2:Rat)^j=W at*
  refine ⟨b8 d0 (by grind),q,?_⟩
  have:T1*(P*D)=P*(T1*D):=by grind
  rw [this,e]
  grind
theorem xB:3/2*(2:Rat)^13*2^72<=iA 0 13/\3/2*(2:Rat)^13*2^72<=iA 1 13:=by decide+kernel
theorem a1G (X0 X2:Rat) (o:Nat) (ho:o=0\/o=1) (a0:0<=X0) (a1:X0<=3/2) (b0:0<=X2) (b1:X2<=2):aR X0 X2 o 13*2^72<=1:=by
 have t:=a2d X0 X2 o 13 ho a0 a1 b0 b1
 have q:3/2*(2:Rat)^13*2^72<=iA o 13:=by rcases ho with h|h<;>subst h;exact xB.1;exact xB.2
 have w0:(0:Rat)<3/2*2^13:=by decide+kernel
 have m:=Rat.mul_le_mul_of_nonneg_left q t.1
 generalize aR X0 X2 o 13=T at*
 generalize iA o 13=P at*
 generalize 3/2*(2:Rat)^13=W at*
 generalize (2:Rat)^72=Z at*
 have:=b8 w0 (show 0<=W*(1-T*Z) by grind)
 grind
theorem a0v (c:Rat) (t:Nat->Rat) (k m:Nat):dM (fun j=>c*t j) k m=c*dM t k m:=by
 induction k generalizing m with
 |zero=>simp only [dM];grind
 |succ k ih=>simp only [dM];rw [ih];grind
theorem xJ (x sq:Int) (o:Nat) (X0 X2:Rat) (ho:o=0\/o=1) (a0:0<=X0) (a1:X0<=1+(o:Rat)/2) (b0:0<=X2) (b1:X2<=3/4+5/4*(o:Rat)) (hx:f9 x (2^192*X0) 12) (hs:f9 sq (2^192*X2) 8) (k:Nat) (hk:k<=300):
  f9 (dM (fun j=>(N4 x sq o j:Rat)) (13+k) 0) (2^192*dM (aR X0 X2 o) 13 0) (2^121):=by
 have h:=UD x sq o X0 X2 ho a0 a1 b0 b1 hx hs
 have n:=QA (t:=fun j=>(N4 x sq o j:Rat)) (u:=fun j=>2^192*aR X0 X2 o j) (e:=12) (fun j=>(h j).1) (13+k) 0
 rw [a0v] at n
 have t:=RA (t:=aR X0 X2 o) (fun j=>(h j).2.1) (fun j=>(h j).2.2.1) k 13 0
 have b:=a1G X0 X2 o ho a0 (by rcases ho with h|h<;>subst h<;>grind) b0 (by rcases ho with h|h<;>subst h<;>grind)
 have kb:((13+k:Nat):Rat)*12<=4000:=by
  have:((13+k:Nat):Rat)<=((313:Nat):Rat):=Rat.natCast_le_natCast.2 (by omega)
  push_cast at*
  grind
 have V0:(0:Rat)<=2^192:=by decide+kernel
 have e1:(2:Rat)^192=2^120*2^72:=by decide+kernel
 have e2:(4000:Rat)+2^120<=2^121:=by decide+kernel
 have e3:(0:Rat)<=2^120:=by decide+kernel
 unfold f9 at*
 rw [show (0+13:Nat)=13 by omega] at t
 have b2:=Rat.mul_le_mul_of_nonneg_left b e3
 have t1:=Rat.mul_le_mul_of_nonneg_left t.1 V0
 have t2:=Rat.mul_le_mul_of_nonneg_left t.2 V0
 rw [e1] at n t1 t2 ⊢
 clear h hx hs e1 V0
 generalize dM (fun j=>(N4 x sq o j:Rat)) (13+k) 0=A at*
 generalize dM (aR X0 X2 o) (13+k) 0=B at*
 generalize dM (aR X0 X2 o) 13 0=D at*
 generalize aR X0 X2 o 13=T at*
 generalize (2:Rat)^72=Z at*
 generalize (2:Rat)^121=Z2 at*
 generalize (2:Rat)^120=Y at*
 constructor<;>grind
theorem HU (n k:Nat) (hn:n<=4800002) (hk:k<=300):f9 (dM (fun j=>(N4 (O8 n) (jQ n) 1 j:Rat)) (13+k) 0) (2^64*(iS n:Rat)) (2^127):=by
 have a:=pW n hn
 have s:=GS n hn
 have X2:F0 n*F0 n<=3/4+5/4*((1:Nat):Rat):=by
  have:=Rat.mul_nonneg (show 0<=7/5-F0 n by grind) (show 0<=7/5+F0 n by grind)
  grind
 have r:=xJ (O8 n) (jQ n) 1 (F0 n) (F0 n*F0 n) (.inr rfl) a.2.1 (by grind) (Rat.mul_nonneg a.2.1 a.2.1) X2 (L5 a.1 (by decide)) s k hk
 have h:=qT 1 n (F0 n) (.inr rfl)
 have p:=yQ n hn
 have p1:=v6 p.1
 have p2:=v6 p.2
 have ze:(zN:Rat)=(bN:Rat)*(qN 1 12:Rat):=by unfold zN;rw [Rat.intCast_mul]
 have se:(sN n:Rat)=((aD*n:Int):Rat)*((qN 1 12:Rat)-(aN 1 n 12:Rat)):=by unfold sN;rw [Rat.intCast_mul,Rat.intCast_sub]
 have an:F0 n*(bN:Rat)=((aD*n:Int):Rat):=Rat.div_mul_cancel (by have:=CZ;grind)
 have z0:(0:Rat)<zN:=by decide+kernel
 have c1:((-(zN*2^62):Int):Rat)= -((zN:Rat)*2^62):=by rw [Rat.intCast_neg,Rat.intCast_mul];rfl
 have c2:((zN*2^62:Int):Rat)=(zN:Rat)*2^62:=by rw [Rat.intCast_mul];rfl
 have c3:((zN*iS n-2^128*sN n:Int):Rat)=(zN:Rat)*iS n-2^128*(sN n:Rat):=by rw [Rat.intCast_sub,Rat.intCast_mul,Rat.intCast_mul];rfl
 rw [c1,c3] at p1
 rw [c2,c3] at p2
 have key:(sN n:Rat)=(zN:Rat)*dM (aR (F0 n) (F0 n*F0 n) 1) 13 0:=by
  rw [se,ze,<-an]
  change dM (aR (F0 n) (F0 n*F0 n) 1) 13 0*(qN 1 12:Rat)=F0 n*((qN 1 12:Rat)-(aN 1 n 12:Rat)) at h
  generalize dM (aR (F0 n) (F0 n*F0 n) 1) 13 0=A at*
  generalize (qN 1 12:Rat)=q at*
  generalize (aN 1 n 12:Rat)=b at*
  generalize (bN:Rat)=B at*
  grind
 rw [key] at p1 p2
 have e1:(2:Rat)^192=2^64*2^128:=by decide+kernel
 have e2:(2:Rat)^121+2^64*2^62<=2^127:=by decide+kernel
 have e3:(0:Rat)<=2^64:=by decide+kernel
 rw [e1] at r
 clear a s X2 h ze se an c1 c2 c3 key p e1
 unfold f9 at*
 generalize dM (aR (F0 n) (F0 n*F0 n) 1) 13 0=A at*
 generalize dM (fun j=>(N4 (O8 n) (jQ n) 1 j:Rat)) (13+k) 0=B at*
 generalize (iS n:Rat)=I at*
 generalize (zN:Rat)=z at*
 have k1:=b8 z0 (show 0<=z*(I-2^128*A+2^62) by grind)
 have k2:=b8 z0 (show 0<=z*(2^62-(I-2^128*A)) by grind)
 have l1:=Rat.mul_nonneg e3 k1
 have l2:=Rat.mul_nonneg e3 k2
 generalize (2:Rat)^64=U at*
 generalize (2:Rat)^128=V at*
 generalize (2:Rat)^62=Y at*
 constructor<;>grind
theorem YJ (n k:Nat) (hn:n<2700000) (hk:k<=300):f9 (dM (fun j=>(N4 (2^192) (jQ n) 0 j:Rat)) (13+k) 0) (2^64*(iC n:Rat)) (2^127):=by
 have a:=pW n (by omega)
 have s:=GS n (by omega)
 have X2:F0 n*F0 n<=3/4+5/4*((0:Nat):Rat):=by
  have:=Rat.mul_nonneg (show 0<=4/5-F0 n by have:=a.2.2.2 (by omega);grind) (show 0<=4/5+F0 n by grind)
  grind
 have r:=xJ (2^192) (jQ n) 0 1 (F0 n*F0 n) (.inl rfl) (by decide) (by grind) (Rat.mul_nonneg a.2.1 a.2.1) X2 (by unfold f9;decide+kernel) s k hk
 have h:=qT 0 n 1 (.inl rfl)
 have i1:iC n=eC n:=by
  rw [(X9 n (by omega) (by omega)).2]
  exact dK n hn
 have p:=(mC n (by omega)).2
 rw [<-i1] at p
 have p1:=v6 p.1
 have p2:=v6 p.2
 have ze:(zN:Rat)=25*(bN:Rat)*(qN 0 12:Rat):=by rw [a01,Rat.intCast_mul,Rat.intCast_mul];rfl
 have se:(cN n:Rat)=25*(bN:Rat)*((qN 0 12:Rat)-(aN 0 n 12:Rat)):=by unfold cN;rw [Rat.intCast_mul,Rat.intCast_mul,Rat.intCast_sub];rfl
 have z0:(0:Rat)<zN:=by decide+kernel
 have c1:((-(zN*2^40):Int):Rat)= -((zN:Rat)*2^40):=by rw [Rat.intCast_neg,Rat.intCast_mul];rfl
 have c2:((zN*2^40:Int):Rat)=(zN:Rat)*2^40:=by rw [Rat.intCast_mul];rfl
 have c3:((zN*iC n-2^128*cN n:Int):Rat)=(zN:Rat)*iC n-2^128*(cN n:Rat):=by rw [Rat.intCast_sub,Rat.intCast_mul,Rat.intCast_mul];rfl
 rw [c1,c3] at p1
 rw [c2,c3] at p2
 have key:(cN n:Rat)=(zN:Rat)*dM (aR 1 (F0 n*F0 n) 0) 13 0:=by
  rw [se,ze]
  change dM (aR 1 (F0 n*F0 n) 0) 13 0*(qN 0 12:Rat)=1*((qN 0 12:Rat)-(aN 0 n 12:Rat)) at h
  generalize dM (aR 1 (F0 n*F0 n) 0) 13 0=A at*
  generalize (qN 0 12:Rat)=q at*
  generalize (aN 0 n 12:Rat)=b at*
  generalize (bN:Rat)=B at*
  grind
 rw [key] at p1 p2
 have e1:(2:Rat)^192=2^64*2^128:=by decide+kernel
 have e2:(2:Rat)^121+2^64*2^40<=2^127:=by decide+kernel
 have e3:(0:Rat)<=2^64:=by decide+kernel
 rw [e1] at r
 clear a s X2 h ze se c1 c2 c3 key p e1 i1
 unfold f9 at*
 generalize dM (aR 1 (F0 n*F0 n) 0) 13 0=A at*
 generalize dM (fun j=>(N4 (2^192) (jQ n) 0 j:Rat)) (13+k) 0=B at*
 generalize (iC n:Rat)=I at*
 generalize (zN:Rat)=z at*
 have k1:=b8 z0 (show 0<=z*(I-2^128*A+2^40) by grind)
 have k2:=b8 z0 (show 0<=z*(2^40-(I-2^128*A)) by grind)
 have l1:=Rat.mul_nonneg e3 k1
 have l2:=Rat.mul_nonneg e3 k2
 generalize (2:Rat)^64=U at*
 generalize (2:Rat)^128=V at*
 generalize (2:Rat)^40=Y at*
 constructor<;>grind
theorem Rg.way (r:Rg) (hc:0<r.c) (hs:0<r.s) (K:Nat) (h:∀n,n<=K->0<(r.C n).1) (f l:Nat->Int) (b N:Nat) (b0:0<b) (hN:N*b<=2*K)
  (hb:∀j,j<N->0<=r.c' (f j)*r.c' (f (j+1))/\
   ((f (j+1)-f j).natAbs:Rat)*(f (j+1)-f j).natAbs+r.c' (f j)*r.c' (f (j+1))*(((l (j+1)-l j).natAbs:Rat)*(l (j+1)-l j).natAbs)<=(b:Rat)*b-b*b*b*b*r.D 1):
  (r.C (N*b)).1<=r.c' (f N-f 0)-r.c' (f 0)*r.c' (f N)*(1-r.c' (l N-l 0)):=by
 rw [<-r.dot]
 exact r.path hc hs K h (fun j=>r.X (f j) (l j)) (fun j=>r.Y (f j) (l j)) (fun j=>r.s' (f j)) b N b0 (fun j=>r.unit _ _) (fun j hj=>r.step_ok _ _ _ _ b (hb j hj).1 (hb j hj).2) hN N (Nat.le_refl _)
def kQ:Nat:=5400000*2^80-2^40
theorem O9:0<fR.c/\0<fR.s:=by decide+kernel
theorem a3r:fR.D 1*2^203<=1:=by rw [Rg.D_one];decide+kernel
theorem f_8:(kQ:Rat)*kQ*fR.D 1<8:=by rw [Rg.D_one];decide+kernel
theorem a3t:1<=(fR.C (2^40)).2*2^63:=by
 have a:=(after 40 (by decide)).2.1
 have k:1<=(((iG 40 p0).2:Rat)/wV-eK 40)*2^63:=by decide+kernel
 have t:(0:Rat)<=2^63:=by decide+kernel
 have:=Rat.mul_le_mul_of_nonneg_right a t
 exact Rat.le_trans k this
theorem a3G:0<(fR.C kQ).1:=by
 have g:=cC 5400000 (by omega)
 have i1:iC ((5400000:Nat):Int)=0:=by
  have h:=bT 0
  have z:=gA.1
  rw [show (0:Int)+5400000=((5400000:Nat):Int) by rfl,z] at h
  exact h
 have i2:iS ((5400000:Nat):Int)=2^128:=by
  have z:=gA.2
  unfold iC at z
  rw [show (0:Int)+5400000=((5400000:Nat):Int) by rfl] at z
  exact z
 unfold gN at g
 rw [i1,i2] at g
 have s:=(fR.z_sum (uW*((5400000:Nat):Int)) (-((2^40:Nat):Int))).1
 have e:(uW:Int)*((5400000:Nat):Int)+ -((2^40:Nat):Int)=((kQ:Nat):Int):=by decide+kernel
 rw [e,(fR.z_neg _).1,(fR.z_neg _).2,(fR.z_nat (2^40)).1,(fR.z_nat (2^40)).2,(fR.z_nat kQ).1] at s
 have b:=fR.bd (2^40)
 have f:=a3t
 rw [s]
 generalize fR.c' (uW*((5400000:Nat):Int))=x at*
 generalize fR.s' (uW*((5400000:Nat):Int))=y at*
 generalize (fR.C (2^40)).1=u at*
 generalize (fR.C (2^40)).2=v at*
 unfold f9 at g
 have e1:(2:Rat)^128=2^73*2^55:=by decide+kernel
 have e2:(2:Rat)^73=2^63*1024:=by decide+kernel
 push_cast at g
 rw [show (340282366920938463463374607431768211456:Rat)=2^128 by decide+kernel] at g
 rw [e1] at g
 have t:(0:Rat)<2^55:=by decide+kernel
 have t2:(0:Rat)<2^63:=by decide+kernel
 have x1: -1<=2^73*x:=by
  have:=b8 t (show (0:Rat)<=2^55*(2^73*x+1) by grind)
  grind
 have x2:2^73*x<=1:=by
  have:=b8 t (show (0:Rat)<=2^55*(1-2^73*x) by grind)
  grind
 have y1:2^73-1<=2^73*y:=by
  have:=b8 t (show (0:Rat)<=2^55*(2^73*y-(2^73-1)) by grind)
  grind
 rw [e2] at x1 x2 y1
 have big:(1000000000000000000:Rat)<=2^63:=by decide+kernel
 generalize (2:Rat)^63=T at*
 clear e1 e2 g s e i1 i2
 have p:=A6 (a:=T*1024*x) (b:=u) (e:=1) (f:=1) (by grind) (by grind) b.1.1 b.1.2
 have y2:0<=y:=b8 (show 0<T*1024 by grind) (by grind)
 have y3:0<=y-1/2:=b8 (show 0<T*1024 by grind) (by grind)
 have q:=Rat.mul_nonneg (show 0<=v*T-1 by grind) y2
 have q2:=Rat.mul_pos t2 t2
 have pos:0<T*(x*u-y* -v):=by
  have:0<=T*(x*u-y* -v)*1024-1:=by grind
  grind
 have:=Rat.mul_pos_iff_of_pos_left (b:=x*u-y* -v) t2
 exact this.1 pos
theorem X6:∀n,n<=kQ->0<(fR.C n).1:=fR.quarter O9.1 O9.2 kQ a3G f_8
theorem SK (b m:Rat) (b0:0<=b) (hb:b<=m) (e:Rat) (hm:m*m*m*m<=e*2^203):b*b*b*b*fR.D 1<=e:=by
 have d1:=fR.D_pos 1
 have d2:=a3r
 have k:b*b*b*b<=m*m*m*m:=by
  have m0:0<=m:=by grind
  have a1:=Rat.mul_le_mul_of_nonneg_left hb b0
  have a2:=Rat.mul_le_mul_of_nonneg_right hb m0
  have a3:b*b<=m*m:=by grind
  have p:=Rat.mul_nonneg b0 b0
  have q:=Rat.mul_nonneg m0 m0
  have b1:=Rat.mul_le_mul_of_nonneg_left a3 p
  have b2:=Rat.mul_le_mul_of_nonneg_right a3 q
  grind
 have t:(0:Rat)<2^203:=by decide+kernel
 generalize (2:Rat)^203=T at*
 generalize fR.D 1=D at*
 have a1:=Rat.mul_le_mul_of_nonneg_right k d1
 have a2:=Rat.mul_le_mul_of_nonneg_right hm d1
 have e0:0<=e:=by
  have m0:0<=m:=by grind
  have q:=Rat.mul_nonneg m0 m0
  have q2:=Rat.mul_nonneg q q
  exact b8 t (by grind)
 have a3:=Rat.mul_le_mul_of_nonneg_left d2 e0
 grind
theorem a24 (A:Int) (n L Y:Nat) (q:Rat) (hn:n<=10800000) (hY:Y<10800000) (hq:∀f:Int,uW*A<=f->f<=uW*(A+n)->0<=fR.c' f/\fR.c' f<=q)
  (h:(n:Rat)*n+(q*L)*(q*L)<=(Y:Rat)*Y+1/8):(fR.C (2^80*Y+2^79)).1<=fR.c' (uW*n)-fR.c' (uW*A)*fR.c' (uW*(A+n))*(1-fR.c' (uW*L)):=by
 have w:=fR.way O9.1 O9.2 kQ X6 (fun j=>uW*A+((j*n:Nat):Int)*2^20) (fun j=>((j*L:Nat):Int)*2^20) (2^20*Y+2^19) (2^60) (by omega) (by unfold kQ;omega) ?_
 ·rw [show 2^60*(2^20*Y+2^19)=2^80*Y+2^79 by omega] at w
  have e1:(uW:Int)*A+((2^60*n:Nat):Int)*2^20=uW*(A+n):=by rw [Int.mul_add];unfold uW;omega
  have e2:(uW:Int)*A+((0*n:Nat):Int)*2^20=uW*A:=by omega
  have e3:((2^60*L:Nat):Int)*2^20=uW*L:=by unfold uW;omega
  have e4:((0*L:Nat):Int)*2^20=0:=by omega
  simp only [e1,e2,e3,e4] at w
  rw [show (uW:Int)*(A+n)-uW*A=uW*n by rw [Int.mul_add];omega,Int.sub_zero] at w
  exact w
 ·intro j hj
  have l1:j*n<=2^60*n:=Nat.mul_le_mul_right _ (by omega)
  have l2:(j+1)*n<=2^60*n:=Nat.mul_le_mul_right _ (by omega)
  have l3:(j+1)*n=j*n+n:=Nat.succ_mul ..
  have l4:(j+1)*L=j*L+L:=Nat.succ_mul ..
  have l5:(uW:Int)*(A+n)=uW*A+2^80*n:=by rw [Int.mul_add];unfold uW;omega
  have g1:=hq (uW*A+((j*n:Nat):Int)*2^20) (by omega) (by omega)
  have g2:=hq (uW*A+(((j+1)*n:Nat):Int)*2^20) (by omega) (by omega)
  have d1:(uW:Int)*A+(((j+1)*n:Nat):Int)*2^20-(uW*A+((j*n:Nat):Int)*2^20)=((n*2^20:Nat):Int):=by omega
  have d2:(((j+1)*L:Nat):Int)*2^20-((j*L:Nat):Int)*2^20=((L*2^20:Nat):Int):=by omega
  rw [d1,d2,Int.natAbs_natCast,Int.natAbs_natCast]
  generalize fR.c' (uW*A+((j*n:Nat):Int)*2^20)=x at*
  generalize fR.c' (uW*A+(((j+1)*n:Nat):Int)*2^20)=y at*
  refine ⟨Rat.mul_nonneg g1.1 g2.1,?_⟩
  have Yb:(Y:Rat)<=2^24-1:=by
    have:((Y:Nat):Rat)<=((2^24-1:Nat):Rat):=Rat.natCast_le_natCast.2 (by omega)
    exact Rat.le_trans this (by decide+kernel)
  have Y0:(0:Rat)<=Y:=by exact_mod_cast Nat.zero_le Y
  have L0:(0:Rat)<=L:=by exact_mod_cast Nat.zero_le L
  have c1:((2^20*Y+2^19:Nat):Rat)=1048576*Y+524288:=by push_cast;grind
  have c2:((n*2^20:Nat):Rat)=1048576*n:=by push_cast;grind
  have c3:((L*2^20:Nat):Rat)=1048576*L:=by push_cast;grind
  rw [c1,c2,c3]
  have ti:=SK (1048576*Y+524288) (2^44) (by grind) (by grind) (2^37) (by decide+kernel)
  have xy:x*y<=q*q:=by
   have a1:=Rat.mul_le_mul_of_nonneg_left g2.2 g1.1
   have a2:=Rat.mul_le_mul_of_nonneg_right g1.2 (show 0<=q by grind)
   grind
  have k:=Rat.mul_le_mul_of_nonneg_right xy (Rat.mul_nonneg L0 L0)
  clear g1 g2 hq xy
  generalize (n:Rat)=n at*
  generalize (L:Rat)=L at*
  generalize (Y:Rat)=Y at*
  generalize (1048576*Y+524288)*(1048576*Y+524288)*(1048576*Y+524288)*(1048576*Y+524288)*fR.D 1=Z at*
  generalize x*y=P at*
  have e1:1048576*n*(1048576*n)+P*(1048576*L*(1048576*L))=1099511627776*(n*n+P*(L*L)):=by grind
  rw [e1]
  have e2:(1048576*Y+524288)*(1048576*Y+524288)=1099511627776*(Y*Y+Y+1/4):=by grind
  rw [e2]
  generalize n*n=N2 at*
  have e3:q*L*(q*L)=q*q*(L*L):=by grind
  rw [e3] at h
  generalize q*q*(L*L)=Q2 at*
  generalize P*(L*L)=U at*
  generalize Y*Y=Y2 at*
  grind
theorem jM (m:Int) (h:m.natAbs<=kQ):0<fR.c' m:=X6 m.natAbs h
theorem Rg.S_step (r:Rg) (f u:Int):(1+r.c' u)*(r.s' (f+u)-r.s' f)=r.s' u*(r.c' f+r.c' (f+u)):=by
 have a:=r.z_sum f u
 have b:=r.z_one u
 rw [a.1,a.2]
 grind
theorem zO (m:Int) (h:m.natAbs<=kQ): -1<fR.s' m/\fR.s' m<1:=by
 have c:=jM m h
 have o:=fR.z_one m
 generalize fR.c' m=x at*
 generalize fR.s' m=y at*
 have p:=Rat.mul_pos c c
 constructor
 ·apply Classical.byContradiction
  intro k
  have:=Rat.mul_nonneg (a:= -1-y) (b:=1-y) (by grind) (by grind)
  grind
 ·apply Classical.byContradiction
  intro k
  have:=Rat.mul_nonneg (a:=y-1) (b:=y+1) (by grind) (by grind)
  grind
theorem bO (m:Int) (u:Nat) (h:m.natAbs<=kQ) (h2:(m+u).natAbs<=kQ) (hu:u<=kQ):fR.s' m<=fR.s' (m+u):=by
 have e:=fR.S_step m u
 have c:=jM m h
 have d:=jM _ h2
 have cu:=jM (u:Int) (by omega)
 have su:0<=fR.s' (u:Int):=by
  rw [(fR.z_nat u).2]
  rcases Nat.eq_zero_or_pos u with k|k
  ·subst k;simp only [Rg.C];exact Rat.le_refl
  ·exact Rat.le_of_lt (fR.S_half O9.1 O9.2 kQ X6 u k (by omega))
 have:=b8 (show 0<1+fR.c' (u:Int) by grind) (show 0<=(1+fR.c' (u:Int))*(fR.s' (m+u)-fR.s' m) by rw [e];exact Rat.mul_nonneg su (by grind))
 grind
theorem SW (s:Nat->Rat) (a b:Nat):R8 s (a+b)=R8 s a+R8 (fun j=>s (a+j)) b:=by
 induction b with
 |zero=>simp only [R8,Nat.add_zero];grind
 |succ b ih=>rw [<-Nat.add_assoc];simp only [R8];rw [ih,Nat.add_assoc];grind
theorem CG {s t:Nat->Rat} (n:Nat) (h:∀i,i<=n->s i=t i):R8 s n=R8 t n:=by
 induction n with
 |zero=>rfl
 |succ n ih=>simp only [R8];rw [ih (fun i hi=>h i (by omega)),h n (by omega),h (n+1) (by omega)]
theorem CS (s:Nat->Rat) (h:∀n,s n<=s (n+1)) (h0:∀n,-1<s n) (h1:∀n,s n<1) (k n:Nat):R8 (fun i=>s (i*k)) n<=R8 s (n*k):=by
 induction n with
 |zero=>rw [Nat.zero_mul];simp only [R8];exact Rat.le_refl
 |succ n ih=>
  rw [Nat.succ_mul,SW s (n*k) k]
  simp only [R8]
  have:=a0s (fun j=>s (n*k+j)) (fun j=>h _) (h0 _) (fun j=>h1 _) k
  simp only [Nat.add_zero] at this
  rw [<-Nat.succ_mul] at this
  generalize R8 (fun j=>s (n*k+j)) k=a at*
  generalize R8 s (n*k)=b at*
  generalize R8 (fun i=>s (i*k)) n=c at*
  change jK (s (n*k)) (s ((n+1)*k))<=a at this
  generalize jK (s (n*k)) (s ((n+1)*k))=d at*
  clear h h0 h1
  grind
theorem zL (s:Nat->Rat) (h:∀n,s n<=s (n+1)) (h0:∀n,-1<s n) (h1:∀n,s n<1) (n:Nat):0<=R8 s n:=by
 induction n with
 |zero=>exact Rat.le_refl
 |succ n ih=>simp only [R8];have:=Z7 (h0 n) (h n) (h1 _);grind
theorem RB (x d k p e:Rat) (x0:0<=x) (x1:x<=1) (d0:0<=d) (hd:d<=k*p+1) (kp:0<=k*p) (he:x*(p*p)<=e):
  x*(d*d)<=(1+1/2^28)*(k*k*e)+(2^28+1):=by
 have a1:=Rat.mul_le_mul_of_nonneg_left hd d0
 have a2:=Rat.mul_le_mul_of_nonneg_right hd (show 0<=k*p+1 by grind)
 have q:=x7 (k*p/2^14-2^14)
 have k0:=x7 k
 have a3:=Rat.mul_le_mul_of_nonneg_left he k0
 have a4:d*d<=(1+1/2^28)*(k*p*(k*p))+(2^28+1):=by grind
 have a5:=Rat.mul_le_mul_of_nonneg_left a4 x0
 have a6:x*((1+1/2^28)*(k*p*(k*p))+(2^28+1))=(1+1/2^28)*(k*k*(x*(p*p)))+x*(2^28+1):=by grind
 rw [a6] at a5
 have a7:x*(2^28+1)<=2^28+1:=by grind
 grind
theorem UL (n Y Q2 K2 b:Rat) (n1:1<=n) (nY:n*n+Q2<=Y*Y+1/8) (Q0:0<=Q2) (Yb:Y<=10800000) (Y1:1<=Y) (hK:n*n*K2<=(1+1/2^26)*Q2) (b0:0<=b) (hb:2^40*(Y+1/2)-n<=n*b):
  2^80+((1+1/2^28)*(2^80*K2)+(2^28+1))+2^53<=b*b:=by
 have nY2:n<=Y+1/2:=by
  apply Classical.byContradiction
  intro k
  have:=Rat.mul_nonneg (a:=n-(Y+1/2)) (b:=n+(Y+1/2)) (by grind) (by grind)
  grind
 have n0:0<n:=by grind
 have T0:0<=2^40*(Y+1/2)-n:=by
  have:(1:Rat)<=2^40:=by decide+kernel
  have:=Rat.mul_nonneg (show (0:Rat)<=2^40-1 by grind) (show 0<=Y+1/2 by grind)
  grind
 have e1:(2:Rat)^40=1099511627776:=by decide+kernel
 have e2:(2:Rat)^80=1099511627776*1099511627776:=by decide+kernel
 have e3:(2:Rat)^53=9007199254740992:=by decide+kernel
 have e4:(2:Rat)^28=268435456:=by decide+kernel
 have e5:(2:Rat)^26=67108864:=by decide+kernel
 rw [e1] at hb T0
 rw [e5] at hK
 rw [e2,e3,e4]
 have m1:=Rat.mul_le_mul_of_nonneg_left hb T0
 have m2:=Rat.mul_le_mul_of_nonneg_right hb (Rat.mul_nonneg (Rat.le_of_lt n0) b0)
 have y1:=Rat.mul_nonneg (show 0<=10800000-Y by grind) (show 0<=Y by grind)
 have y2:=Rat.mul_nonneg (show 0<=Y+1/2-n by grind) (show 0<=Y+1/2 by grind)
 have y3:=Rat.mul_nonneg (show 0<=10800000-Y by grind) (show 0<=Y+1/2 by grind)
 have fin:0<=(n*n)*(b*b-(1099511627776*1099511627776+((1+1/268435456)*(1099511627776*1099511627776*K2)+(268435456+1))+9007199254740992)):=by
  have i1:(n*n)*(b*b-(1099511627776*1099511627776+((1+1/268435456)*(1099511627776*1099511627776*K2)+(268435456+1))+9007199254740992))=(n*b)*(n*b)-1099511627776*1099511627776*(n*n)-(1+1/268435456)*(1099511627776*1099511627776)*(n*n*K2)-(9007199254740992+268435456+1)*(n*n):=by grind
  rw [i1]
  have q:0<=n*n:=x7 n
  have m3:(1099511627776*(Y+1/2)-n)*(1099511627776*(Y+1/2)-n)<=(n*b)*(n*b):=by grind
  have i2:(1099511627776*(Y+1/2)-n)*(1099511627776*(Y+1/2)-n)=1099511627776*1099511627776*(Y*Y+Y+1/4)-2*1099511627776*(n*(Y+1/2))+n*n:=by grind
  rw [i2] at m3
  have i3:n*(Y+1/2)<=10800000*(Y+1/2)+1/2*(Y+1/2):=by grind
  clear m1 m2 i1 i2 y2 y3 hb b0
  generalize n*(Y+1/2)=X at*
  generalize n*b*(n*b)=B at*
  generalize n*n*K2=M at*
  have y4:Y*Y<=10800000*Y:=by grind
  generalize n*n=N at*
  generalize Y*Y=Z at*
  grind
 have:=b8 (Rat.mul_pos n0 n0) fin
 grind
def K5 (A:Int) (N j:Nat):Int:=uW*A+((min j N:Nat):Int)*2^40
def xE (A:Int) (N j:Nat):Rat:=R8 (fun i=>fR.s' (K5 A N i)) j
theorem FH {x y:Rat} (h:x<=y):0<=y.floor-x.floor/\((y.floor-x.floor:Int):Rat)<=y-x+1:=by
 have a:=Rat.floor_le x
 have b:=Rat.floor_le y
 have c:=Rat.lt_floor (x:=x)
 constructor
 ·have:x.floor<=y.floor:=Rat.le_floor_iff.2 (by grind)
  omega
 ·push_cast
  grind
theorem FC {d:Int} (h:0<=d):((d.natAbs:Nat):Rat)=(d:Rat):=by
 have:((d.natAbs:Nat):Int)=d:=by omega
 have e:(((d.natAbs:Nat):Int):Rat)=(d:Rat):=by rw [this]
 exact_mod_cast e
theorem a1U (A:Int) (n L Y:Nat) (Q2 Psi:Rat) (hn:0<n) (hA: -4800000<=A) (hA2:A+n<=4800000) (hY:Y<10800000) (hP:0<Psi) (hPsi:Psi<=R8 (fun i=>fR.s' (uW*(A+(i:Nat)))) n) (Q0:0<=Q2)
  (hK:(n:Rat)*n*((uW*L:Nat)*((uW*L:Nat):Rat)*fR.D 1)<=(1+1/2^26)*Q2*(Psi*Psi)) (h:(n:Rat)*n+Q2<=(Y:Rat)*Y+1/8):
  (fR.C (2^80*Y+2^79)).1<=fR.c' (uW*n)-fR.c' (uW*A)*fR.c' (uW*(A+n))*(1-fR.c' (uW*L)):=by
 obtain ⟨N,hN⟩:∃N,N=n*2^40:=⟨_,rfl⟩
 have Ar:(uW:Int)*A=2^80*A:=by unfold uW;omega
 have An:(uW:Int)*(A+n)=2^80*A+2^80*n:=by unfold uW;omega
 have lat:∀j,(K5 A N j).natAbs<=kQ:=fun j=>by unfold K5 kQ;rw [Ar];have:min j N<=N:=Nat.min_le_right _ _;omega
 have s0:∀j,-1<fR.s' (K5 A N j):=fun j=>(zO _ (lat j)).1
 have s1:∀j,fR.s' (K5 A N j)<1:=fun j=>(zO _ (lat j)).2
 have sm:∀j,fR.s' (K5 A N j)<=fR.s' (K5 A N (j+1)):=fun j=>by
  obtain ⟨d,hd,e⟩:∃d:Nat,d<=2^40/\K5 A N (j+1)=K5 A N j+d:=⟨(min (j+1) N-min j N)*2^40,by omega,by unfold K5;omega⟩
  rw [e]
  exact bO _ _ (lat j) (by rw [<-e];exact lat _) (by unfold kQ;omega)
 have pn:=zL _ sm s0 s1
 have pb:=CS _ sm s0 s1 (2^40) n
 have pc:R8 (fun i=>fR.s' (K5 A N (i*2^40))) n=R8 (fun i=>fR.s' (uW*(A+(i:Nat)))) n:=CG n fun i hi=>by
  have:K5 A N (i*2^40)=uW*(A+(i:Nat)):=by
   unfold K5;rw [hN,Nat.min_eq_left (Nat.mul_le_mul_right _ hi)];unfold uW;omega
  rw [this]
 rw [pc,<-hN] at pb
 change ∀j,0<=xE A N j at pn
 change _<=xE A N N at pb
 have PN:Psi<=xE A N N:=Rat.le_trans hPsi pb
 have PN0:0<xE A N N:=by grind
 obtain ⟨k,hk⟩:∃k:Rat,k=((uW*L:Nat):Rat)/xE A N N:=⟨_,rfl⟩
 have kP:k*xE A N N=((uW*L:Nat):Rat):=by rw [hk];exact Rat.div_mul_cancel (by grind)
 have k0:0<=k:=b8 PN0 (by rw [Rat.mul_comm,kP];exact_mod_cast Nat.zero_le _)
 have Y1:1<=Y:=by
  apply Classical.byContradiction
  intro g
  have y0:Y=0:=by omega
  subst y0
  have:(1:Rat)<=n:=by exact_mod_cast hn
  have:=Rat.mul_nonneg (a:=(n:Rat)-1) (b:=n+1) (by grind) (by grind)
  grind
 have hn':n<=Y:=by
  apply Classical.byContradiction
  intro g
  have a1:(Y:Rat)+1<=n:=by exact_mod_cast (show Y+1<=n by omega)
  have a2:(1:Rat)<=Y:=by exact_mod_cast Y1
  have:=Rat.mul_nonneg (a:=(n:Rat)-(Y+1)) (b:=n+(Y+1)) (by grind) (by grind)
  grind
 have hK2:(n:Rat)*n*(k*k*fR.D 1)<=(1+1/2^26)*Q2:=by
  have P2:Psi*Psi<=xE A N N*xE A N N:=by
   have a1:=Rat.mul_le_mul_of_nonneg_left PN (Rat.le_of_lt hP)
   have a2:=Rat.mul_le_mul_of_nonneg_right PN (Rat.le_of_lt PN0)
   grind
  have P3:=Rat.mul_le_mul_of_nonneg_left P2 (show 0<=(1+1/2^26)*Q2 from Rat.mul_nonneg (by decide+kernel) Q0)
  have P4:=Rat.mul_pos PN0 PN0
  rw [<-kP] at hK
  clear hPsi pb pc PN hk pn sm s0 s1 lat
  generalize (1+1/2^26:Rat)*Q2=R at*
  generalize xE A N N=M at*
  generalize fR.D 1=D at*
  have:=b8 P4 (show 0<=(M*M)*(R-(n:Rat)*n*(k*k*D)) by grind)
  grind
 obtain ⟨b,hb⟩:∃b,b=(2^80*Y+2^79)/N:=⟨_,rfl⟩
 have N0:0<N:=by omega
 have b1:N*b<=2^80*Y+2^79:=by rw [hb];exact Nat.mul_div_le _ _
 have b2:2^80*Y+2^79<N*b+N:=by
  have:=Nat.lt_mul_div_succ (2^80*Y+2^79) N0
  rw [<-hb,Nat.mul_add,Nat.mul_one] at this
  exact this
 have bpos:0<b:=by
  rw [hb]
  exact Nat.div_pos (by omega) N0
 have w:=fR.way O9.1 O9.2 kQ X6 (K5 A N) (fun j=>(k*xE A N j).floor) b N bpos (by unfold kQ;omega) ?_
 ·have m:=fR.C_mono O9.1 O9.2 kQ X6 (N*b) (2^80*Y+2^79-N*b) (by unfold kQ;omega)
  rw [show N*b+(2^80*Y+2^79-N*b)=2^80*Y+2^79 by omega] at m
  refine Rat.le_trans m (Rat.le_trans w ?_)
  have f0:K5 A N 0=uW*A:=by unfold K5;rw [Nat.zero_min];omega
  have fN:K5 A N N=uW*(A+n):=by unfold K5;rw [Nat.min_self,hN];unfold uW;omega
  have l0:(k*xE A N 0).floor=0:=by unfold xE R8;rw [Rat.mul_zero];rfl
  have lN:(k*xE A N N).floor=uW*L:=by rw [kP];have:=Rat.floor_intCast (a:=((uW*L:Nat):Int));push_cast at this ⊢;exact this
  rw [f0,fN,l0,lN,show (uW:Int)*(A+n)-uW*A=uW*n by rw [Int.mul_add];omega,Int.sub_zero]
  exact Rat.le_refl
 ·intro j hj
  have c1:=jM _ (lat j)
  have c2:=jM _ (lat (j+1))
  have ej:K5 A N (j+1)=K5 A N j+((2^40:Nat):Int):=by unfold K5;omega
  have ej2:K5 A N (j+1)-K5 A N j=((2^40:Nat):Int):=by omega
  have mstep:xE A N (j+1)=xE A N j+jK (fR.s' (K5 A N j)) (fR.s' (K5 A N (j+1))):=rfl
  have p0:=Z7 (s0 j) (sm j) (s1 (j+1))
  have sq:=fR.psi_sq (K5 A N j) (K5 A N (j+1)) (Rat.mul_nonneg (Rat.le_of_lt c1) (Rat.le_of_lt c2))
  have one:=U9 (s0 j) (s1 j) (s0 (j+1)) (s1 (j+1))
  have pe:=nF one
  have kp:=Rat.mul_nonneg k0 p0
  have fl:=FH (x:=k*xE A N j) (y:=k*xE A N (j+1)) (by rw [mstep];grind)
  have xle:=Rat.mul_nonneg (show 0<=1-fR.c' (K5 A N j) by have:=(fR.z_bd (K5 A N j)).1.2;grind) (Rat.le_of_lt c2)
  have xl1:=(fR.z_bd (K5 A N (j+1))).1.2
  have dl:=fR.D_le (2^40)
  have du:2-2*fR.c' (K5 A N (j+1)-K5 A N j)=fR.D (2^40):=by rw [ej2,(fR.z_nat _).1];rfl
  rw [du] at sq
  rw [mstep] at fl
  refine ⟨Rat.mul_nonneg (Rat.le_of_lt c1) (Rat.le_of_lt c2),?_⟩
  rw [ej2,Int.natAbs_natCast]
  rw [mstep,FC fl.1]
  have d0:=v6 fl.1
  have he:fR.c' (K5 A N j)*fR.c' (K5 A N (j+1))*(jK (fR.s' (K5 A N j)) (fR.s' (K5 A N (j+1)))*jK (fR.s' (K5 A N j)) (fR.s' (K5 A N (j+1))))<=2^80*fR.D 1:=by
   have t:=sq.1
   rw [<-pe] at t
   have dl2:fR.D (2^40)<=2^80*fR.D 1:=by
    have:(((2^40:Nat):Rat))*((2^40:Nat):Rat)=2^80:=by decide+kernel
    rw [this] at dl;exact dl
   generalize jK (fR.s' (K5 A N j)) (fR.s' (K5 A N (j+1)))=q at*
   generalize 1-fR.s' (K5 A N j)*fR.s' (K5 A N (j+1))=o at*
   generalize fR.c' (K5 A N j)*fR.c' (K5 A N (j+1))=x at*
   have:=b8 (Rat.mul_pos one one) (show 0<=(o*o)*(fR.D (2^40)-x*(q*q)) by grind)
   grind
  have sl:=RB _ _ k _ _ (Rat.mul_nonneg (Rat.le_of_lt c1) (Rat.le_of_lt c2)) (by grind) (by simpa using d0) (by grind) kp he
  have nb:2^40*((Y:Rat)+1/2)-n<=n*b:=by
   have a1:((2^80*Y+2^79:Nat):Rat)<=((N*b+N:Nat):Rat):=Rat.natCast_le_natCast.2 (by omega)
   rw [hN] at a1
   have a2:((2^80*Y+2^79:Nat):Rat)=1099511627776*(1099511627776*(Y+1/2)):=by push_cast;grind
   have a3:((n*2^40*b+n*2^40:Nat):Rat)=1099511627776*(n*b+n):=by push_cast;grind
   rw [a2,a3] at a1
   rw [show (2:Rat)^40=1099511627776 by decide+kernel]
   grind
  have b0:(0:Rat)<=b:=by exact_mod_cast Nat.zero_le b
  have n1:(1:Rat)<=n:=by exact_mod_cast hn
  have Yb:(Y:Rat)<=10800000:=by
    have:((Y:Nat):Rat)<=((10800000:Nat):Rat):=Rat.natCast_le_natCast.2 (by omega)
    exact this
  have Yb1:(1:Rat)<=Y:=by exact_mod_cast Y1
  have le:=UL n Y Q2 (k*k*fR.D 1) b n1 h Q0 Yb Yb1 hK2 b0 nb
  have bB:(b:Rat)<=2^64:=by
   have b3:b<=2^64:=by
    rw [hb,hN]
    refine Nat.le_trans (Nat.div_le_div_left (c:=2^40) (by omega) (by omega)) (by omega)
   have:((b:Nat):Rat)<=((2^64:Nat):Rat):=Rat.natCast_le_natCast.2 b3
   exact Rat.le_trans this (by decide+kernel)
  have ti:=SK b (2^64) b0 bB (2^53) (by decide+kernel)
  have c40:((2^40:Nat):Rat)*((2^40:Nat):Rat)=2^80:=by decide+kernel
  rw [c40]
  have e9:k*k*(2^80*fR.D 1)=2^80*(k*k*fR.D 1):=by grind
  rw [e9] at sl
  grind
end Go.Proofs.YtdhbeoahpfimbaaGreat
