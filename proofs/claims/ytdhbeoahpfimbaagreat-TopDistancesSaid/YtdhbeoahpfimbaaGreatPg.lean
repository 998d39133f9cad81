/- Part of the proof of TopDistances. -/
import Derived.Test.YtdhbeoahpfimbaaGreatPf
import Derived.Test.YtdhbeoahpfimbaaGreatPv
import Derived.Test.YtdhbeoahpfimbaaGreatPw
namespace Go.Proofs.YtdhbeoahpfimbaaGreat
open Brg Rot
theorem QV (a b:Int) (t e:Rat) (h:a<=b) (h1:b<=a+1) (l:(a:Rat)<=t+e) (k:t<=b+e) (e0:0<=e):∃u,iv a b u 1/\f9 u t e:=by
 have h:=v6 h
 have h1:=v6 h1
 push_cast at h1
 unfold iv f9
 by_cases p:t<a
 ·exact ⟨a,by refine ⟨⟨?_,?_⟩,?_,?_⟩<;>grind,by constructor<;>grind⟩
 ·by_cases q:(b:Rat)<t
  ·exact ⟨b,by refine ⟨⟨?_,?_⟩,?_,?_⟩<;>grind,by constructor<;>grind⟩
  ·exact ⟨t,by refine ⟨⟨?_,?_⟩,?_,?_⟩<;>grind,by constructor<;>grind⟩
theorem xL (a b:Int) (I:Int) (x:Rat) (h:a<=b) (h1:b<=a+1) (l:a*2^98<=I+2^42) (k:I<=b*2^98+2^42) (g:f9 (2^128*x) I (2^64)):∃u,iv a b u 1/\f9 u (1073741824*x) (1/2^32):=by
 have l:=v6 l
 have k:=v6 k
 have t:(0:Rat)<2^98:=by decide+kernel
 have e:(2:Rat)^128=2^98*1073741824:=by decide+kernel
 have f:(2:Rat)^64+2^42<=2^98*(1/2^32):=by decide+kernel
 have z:(0:Rat)<=1/2^32:=by decide+kernel
 have c1:((a*2^98:Int):Rat)=a*2^98:=by rw [Rat.intCast_mul];rfl
 have c2:((I+2^42:Int):Rat)=I+2^42:=by rw [Rat.intCast_add];rfl
 have c3:((b*2^98+2^42:Int):Rat)=b*2^98+2^42:=by rw [Rat.intCast_add,Rat.intCast_mul];rfl
 rw [c1,c2] at l
 rw [c3] at k
 unfold f9 at g
 rw [e] at g
 refine QV a b (1073741824*x) (1/2^32) h h1 ?_ ?_ z
 ·generalize (2:Rat)^98=T at*
  generalize (1/2^32:Rat)=E at*
  have:=b8 t (show 0<=T*(1073741824*x+E-a) by grind)
  grind
 ·generalize (2:Rat)^98=T at*
  generalize (1/2^32:Rat)=E at*
  have:=b8 t (show 0<=T*(b+E-1073741824*x) by grind)
  grind
theorem a1M (n:Int) (h:n.natAbs<=43200000):∃u,iv (T6 n) (T8 n) u 1/\f9 u (1073741824*fR.s' (uW*n)) (1/2^32):=by
 have b:=PS n
 have c:=rG n
 exact xL _ _ _ _ c.2.1 c.2.2.1 b.1 b.2 (qB n h).2
theorem FN (n:Int) (h:n.natAbs<=43200000):∃u,iv (T6 (n+5400000)) (T8 (n+5400000)) u 1/\f9 u (1073741824*fR.c' (uW*n)) (1/2^32):=by
 have b:=PS (n+5400000)
 have c:=rG (n+5400000)
 exact xL _ _ _ _ c.2.1 c.2.2.1 b.1 b.2 (qB n h).1
theorem UT (f:Int->Bool):∀k lo hi,fX f k lo hi=lo\/f (fX f k lo hi)=true:=by
 intro k
 induction k with
 |zero=>intro lo hi;exact .inl rfl
 |succ k ih=>
  intro lo hi
  unfold fX
  split
  ·split
   ·rename_i h
    rcases ih ((lo+hi)/2) hi with g|g
    ·exact .inr (by rw [g];exact h)
    ·exact .inr g
   ·exact ih lo ((lo+hi)/2)
  ·exact .inl rfl
theorem a0z (f:Int->Bool):∀k lo hi,lo<hi->fX f k lo hi<hi:=by
 intro k
 induction k with
 |zero=>intro lo hi h;exact h
 |succ k ih=>
  intro lo hi h
  unfold fX
  split
  ·split
   ·exact ih ((lo+hi)/2) hi (by omega)
   ·have:=ih lo ((lo+hi)/2) (by omega);omega
  ·exact h
theorem NQ {f g:Int->Bool} (h:∀k,f k=true->g k=true):∀n lo hi,lo<=hi->fX f n lo hi<=fX g n lo hi:=by
 intro n
 induction n with
 |zero=>intro lo hi _;exact Int.le_refl _
 |succ n ih=>
  intro lo hi hl
  unfold fX
  split
  ·cases hf:f ((lo+hi)/2)
   ·cases hg:g ((lo+hi)/2)
    ·simp only [Bool.false_eq_true,if_false];exact ih _ _ (by omega)
    ·simp only [Bool.false_eq_true,if_false,if_true]
     have a:=wK f n lo ((lo+hi)/2) (by omega)
     have b:=wK g n ((lo+hi)/2) hi (by omega)
     omega
   ·simp only [h _ hf,if_true];exact ih _ _ (by omega)
  ·exact Int.le_refl _
theorem mT (v m:Int):jV v m=true↔T8 m<=v:=by
 have b:=rG m
 unfold jV U6
 rw [decide_eq_true_eq]
 repeat' split
 all_goals omega
theorem kR (v:Int):M8 v= -5400000\/T8 (M8 v)<=v:=by
 rcases UT (jV v) 24 (-5400000) 5400001 with h|h
 ·exact .inl h
 ·exact .inr ((mT _ _).1 h)
theorem pF (v:Int): -5400000<=M8 v/\M8 v<=5400000:=by
 have a:=kX v
 have b:=a0z (jV v) 24 (-5400000) 5400001 (by decide)
 unfold M8 at*
 omega
theorem aV {v v':Int} (h:v<=v'):M8 v<=M8 v':=
 NQ (fun k hk=>(mT _ _).2 (Int.le_trans ((mT _ _).1 hk) h)) _ _ _ (by decide)
theorem pE (n:Int) (h0:0<=n) (h1:n<=5400000):T6 n=K3 n/\T8 n=wO n:=by
 have r:K7 n=n:=by
   unfold K7;repeat' split
   all_goals omega
 unfold T6 T8
 rw [r,if_neg (by omega),if_neg (by omega)]
 exact ⟨rfl,rfl⟩
theorem XB (n:Int) (h0: -5400000<=n) (h1:n<5400000):T6 n<T8 (n+1):=by
 by_cases g:0<=n
 ·rw [(pE n g (by omega)).1,(pE (n+1) (by omega) (by omega)).2]
  exact kB n g h1
 ·have a:=xU (-n)
  have b:=xU (-n-1)
  rw [show - -n=n by omega] at a
  rw [show -(-n-1)=n+1 by omega] at b
  rw [a.1,b.2,(pE (-n) (by omega) (by omega)).2,(pE (-n-1) (by omega) (by omega)).1]
  have:=kB (-n-1) (by omega) (by omega)
  rw [show -n-1+1= -n by omega] at this
  omega
theorem sF (v:Int):M8 v+M8 (-v)<=0:=by
 have r1:=pF v
 have r2:=pF (-v)
 rcases kR v with h|h
 ·omega
 ·rcases kR (-v) with k|k
  ·omega
  ·apply Classical.byContradiction
   intro g
   have n:=xU (M8 (-v))
   have s:=XB (-M8 (-v)) (by omega) (by omega)
   have u:=a0D (-5400000) (-M8 (-v)+1) (M8 v) (by decide) (by omega) (by omega) (by omega)
   omega
theorem a2t (a:Int) (h:a<=1073741824):0<=Y5 a/\Y5 a<=10800000/\(Y5 a=0\/∃u,f9 u (1073741824*fR.c' (uW*Y5 a)) (1/2^32)/\((1073741824-2*max a 0:Int):Rat)<=u):=by
 have e:Y5 a=5400000+M8 (2*max a 0-1073741824):=by
  unfold Y5 cT
  rw [show min (1073741824-2*max a 0) 1073741824=1073741824-2*max a 0 by omega,show -(1073741824-2*max a 0)=2*max a 0-1073741824 by omega]
  omega
 have r:=pF (2*max a 0-1073741824)
 have y:=kR (2*max a 0-1073741824)
 rw [e]
 generalize M8 (2*max a 0-1073741824)=z at*
 refine ⟨by omega,by omega,?_⟩
 rcases y with y|y
 ·exact .inl (by omega)
 ·right
  obtain ⟨u,hi,hn⟩:=FN (5400000+z) (by omega)
  refine ⟨u,hn,?_⟩
  have b:=RJ z
  rw [show 5400000+z+5400000=z+10800000 by omega,b.1] at hi
  exact Rat.le_trans (v6 (by omega)) hi.1.1
theorem a2Q (b:Int) (h:0<=b):0<=fH b/\fH b<=10800000/\(fH b=10800000\/∃u,f9 u (1073741824*fR.c' (uW*fH b)) (1/2^32)/\u<=((1073741824-2*min b 1073741824:Int):Rat)):=by
 have e:fH b=5400000-M8 (1073741824-2*min b 1073741824):=by
  unfold fH cW
  rw [show max (1073741824-2*min b 1073741824) (-1073741824)=1073741824-2*min b 1073741824 by omega]
 have r:=pF (1073741824-2*min b 1073741824)
 have y:=kR (1073741824-2*min b 1073741824)
 rw [e]
 generalize M8 (1073741824-2*min b 1073741824)=z at*
 refine ⟨by omega,by omega,?_⟩
 rcases y with y|y
 ·exact .inl (by omega)
 ·right
  obtain ⟨u,hi,hn⟩:=FN (5400000-z) (by omega)
  refine ⟨u,hn,?_⟩
  have b:=lJ z
  rw [show 5400000-z+5400000=10800000-z by omega,b.2] at hi
  exact Rat.le_trans hi.1.2 (v6 (by omega))
abbrev I2:=Int×Int
def F6 (p q:I2):I2:=(vE p.1 p.2 q.1 q.2,vB p.1 p.2 q.1 q.2)
def vF (p q:I2):I2:=(p.1+q.1,p.2+q.2)
def AY (p q:I2):I2:=(p.1-q.2,p.2-q.1)
def WW (p:I2):I2:=(sqL p.1 p.2,sqH p.1 p.2)
def I0 (n:Int):I2:=(T6 n,T8 n)
def B6 (n:Int):I2:=(T6 (n+5400000),T8 (n+5400000))
def dS (n:Int):I2:=(jL n n,oG n n)
def dE (p:I2) (u w:Rat):Prop:=iv p.1 p.2 (1073741824*u) w
theorem jF {p q:I2} {u v w x:Rat} (h:dE p u w) (k:dE q v x):dE (vF p q) (u+v) (w+x):=by
 unfold dE at*;rw [Rat.mul_add];exact a1t h k
theorem lZ {p q:I2} {u v w x:Rat} (h:dE p u w) (k:dE q v x):dE (AY p q) (u-v) (w+x):=by
 unfold dE at*;rw [show 1073741824*(u-v)=1073741824*u-1073741824*v by grind];exact a1S h k
theorem G3 {p q:I2} {u v w x:Rat} (h:dE p u w) (k:dE q v x) (hu: -2<=u/\u<=2) (hv: -2<=v/\v<=2) (hw:w<=1000):dE (F6 p q) (u*v) (3*(w+x)+1):=
 a2f h k (by constructor<;>grind) (by constructor<;>grind) hw (by grind)
theorem DH {p:I2} {u w:Rat} (h:dE p u w) (hu: -2<=u/\u<=2) (hw:w<=1000):dE (WW p) (u*u) (6*w+1):=
 a2s h (by constructor<;>grind) hw (by grind)
theorem P7 {p:I2} {u w:Rat} (h:dE p u w) (hu: -15/10<=u/\u<=15/10) (hw:w<=400000):x8 p.1 p.2=true:=
 a1Z h (by grind) (by grind) hw
def dX:Rat:=1/2^62
theorem aE:0<=dX/\1000*dX<=1/2^52/\1/2^32=1073741824*dX:=by unfold dX;decide+kernel
theorem RL {p:I2} {u x:Rat} (h:iv p.1 p.2 u 1) (k:f9 u (1073741824*x) (1/2^32)):∃a,dE p a 1/\f9 a x dX:=by
 rw [aE.2.2] at k
 obtain ⟨a,rfl,ha⟩:=H5 (show (0:Rat)<1073741824 by decide) k
 exact ⟨a,h,ha⟩
theorem X4 (n:Int) (h:n.natAbs<=43200000):∃a,dE (I0 n) a 1/\f9 a (fR.s' (uW*n)) dX:=by
 obtain ⟨u,h1,h2⟩:=a1M n h
 exact RL (p:=I0 n) h1 h2
theorem N6 (n:Int) (h:n.natAbs<=43200000):∃a,dE (B6 n) a 1/\f9 a (fR.c' (uW*n)) dX:=by
 obtain ⟨u,h1,h2⟩:=FN n h
 exact RL (p:=B6 n) h1 h2
theorem xQ (n:Int) {a:Rat} (h:dE (B6 n) a 1):dE (dS n) ((1-a)/2) 1:=by
 have e:=Y9 (n+5400000)
 unfold dE iv B6 at h
 unfold dE iv dS jL oG
 rw [e.1,e.2]
 simp only at*
 have h1:=v6 (show (1073741824-T8 (n+5400000))/2*2<=1073741824-T8 (n+5400000) by omega)
 have h2:=v6 (show 1073741824-T8 (n+5400000)<=(1073741824-T8 (n+5400000))/2*2+1 by omega)
 have h3:=v6 (show (1073741824-T6 (n+5400000)+1)/2*2<=1073741824-T6 (n+5400000)+1 by omega)
 have h4:=v6 (show 1073741824-T6 (n+5400000)<=(1073741824-T6 (n+5400000)+1)/2*2 by omega)
 push_cast at h1 h2 h3 h4
 generalize (((1073741824-T8 (n+5400000))/2:Int):Rat)=x at*
 generalize (((1073741824-T6 (n+5400000)+1)/2:Int):Rat)=y at*
 generalize (T8 (n+5400000):Rat)=r at*
 generalize (T6 (n+5400000):Rat)=s at*
 refine ⟨⟨?_,?_⟩,?_,?_⟩<;>grind
theorem Z6 {a b x y e f:Rat} (h:f9 a x e) (k:f9 b y f):f9 (a+b) (x+y) (e+f):=by unfold f9 at*;constructor<;>grind
theorem oQ {a x y e f:Rat} (h:f9 a x e) (k:x=y) (l:e=f):f9 a y f:=by subst k l;exact h
theorem pA {c s:Rat} (h:c*c+s*s=1):(-1<=c/\c<=1)/\(-1<=s/\s<=1):=by
 have a:=x7 c
 have b:=x7 s
 have f:∀t:Rat,t*t<=1-> -1<=t/\t<=1:=fun t h=>by
  constructor
  ·apply Classical.byContradiction
   intro g
   have:=Rat.mul_pos (show 0< -1-t by grind) (show 0<1-t by grind)
   grind
  ·apply Classical.byContradiction
   intro g
   have:=Rat.mul_pos (show 0<t-1 by grind) (show 0<t+1 by grind)
   grind
 exact ⟨f c (by grind),f s (by grind)⟩
theorem kY {a b:Rat} (h: -1<=a/\a<=1) (k: -1<=b/\b<=1): -1<=a*b/\a*b<=1:=by
 have:=A6 (a:=a) (b:=b) (e:=1) (f:=1) h.1 h.2 k.1 k.2
 constructor<;>grind
theorem YB {c1 s1 c2 s2 c3 s3 c4 s4 a1 b1 a2 b2 a3 b3 a4 b4 e q:Rat} (u1:c1*c1+s1*s1=1) (u2:c2*c2+s2*s2=1) (u3:c3*c3+s3*s3=1) (u4:c4*c4+s4*s4=1)
  (h1:f9 a1 c1 e) (g1:f9 b1 s1 e) (h2:f9 a2 c2 e) (g2:f9 b2 s2 e) (h3:f9 a3 c3 e) (g3:f9 b3 s3 e) (h4:f9 a4 c4 e) (g4:f9 b4 s4 e) (e1:100*e<=1)
  (hq:q=c1*c2*(c3*c4+s3*s4)+s1*s2) (q1: -1<=q/\q<=1):
  f9 (a1*a3*(a2*a4)+a1*b3*(a2*b4)+b1*b2) q (21*e)/\
  f9 ((a1*b3*b2-b1*(a2*b4))*(a1*b3*b2-b1*(a2*b4))+(b1*(a2*a4)-a1*a3*b2)*(b1*(a2*a4)-a1*a3*b2)+(a1*a3*(a2*b4)-a1*b3*(a2*a4))*(a1*a3*(a2*b4)-a1*b3*(a2*a4))) (1-q*q) (126*e):=by
 have U1:=pA u1
 have U2:=pA u2
 have U3:=pA u3
 have U4:=pA u4
 have e0:0<=e:=by unfold f9 at h1;grind
 have x1:=D8 h1 h3 U1.1 U3.1 (by grind)
 have x2:=D8 h1 g3 U1.1 U3.2 (by grind)
 have y1:=D8 h2 h4 U2.1 U4.1 (by grind)
 have y2:=D8 h2 g4 U2.1 U4.2 (by grind)
 have B1:=kY U1.1 U3.1
 have B2:=kY U1.1 U3.2
 have B3:=kY U2.1 U4.1
 have B4:=kY U2.1 U4.2
 have d1:=D8 x1 y1 B1 B3 (by grind)
 have d2:=D8 x2 y2 B2 B4 (by grind)
 have d3:=D8 g1 g2 U1.2 U2.2 (by grind)
 have D:=oQ (Z6 (Z6 d1 d2) d3) (y:=q) (f:=21*e) (by rw [hq];grind) (by grind)
 have p1:=D8 x1 x1 B1 B1 (by grind)
 have p2:=D8 x2 x2 B2 B2 (by grind)
 have p3:=D8 g1 g1 U1.2 U1.2 (by grind)
 have A:=oQ (Z6 (Z6 p1 p2) p3) (y:=1) (f:=21*e) (by grind) (by grind)
 have r1:=D8 y1 y1 B3 B3 (by grind)
 have r2:=D8 y2 y2 B4 B4 (by grind)
 have r3:=D8 g2 g2 U2.2 U2.2 (by grind)
 have B:=oQ (Z6 (Z6 r1 r2) r3) (y:=1) (f:=21*e) (by grind) (by grind)
 have AB:=D8 A B (by constructor<;>grind) (by constructor<;>grind) (by grind)
 have DD:=D8 D D q1 q1 (by grind)
 refine ⟨D,?_⟩
 clear d1 d2 d3 p1 p2 p3 r1 r2 r3 x1 x2 y1 y2 A B B1 B2 B3 B4 h1 g1 h2 g2 h3 g3 h4 g4 U1 U2 U3 U4 u1 u2 u3 u4 hq
 have L:(a1*b3*b2-b1*(a2*b4))*(a1*b3*b2-b1*(a2*b4))+(b1*(a2*a4)-a1*a3*b2)*(b1*(a2*a4)-a1*a3*b2)+(a1*a3*(a2*b4)-a1*b3*(a2*a4))*(a1*a3*(a2*b4)-a1*b3*(a2*a4))=
   (a1*a3*(a1*a3)+a1*b3*(a1*b3)+b1*b1)*(a2*a4*(a2*a4)+a2*b4*(a2*b4)+b2*b2)-(a1*a3*(a2*a4)+a1*b3*(a2*b4)+b1*b2)*(a1*a3*(a2*a4)+a1*b3*(a2*b4)+b1*b2):=by grind
 rw [L]
 generalize (a1*a3*(a1*a3)+a1*b3*(a1*b3)+b1*b1)*(a2*a4*(a2*a4)+a2*b4*(a2*b4)+b2*b2)=X at*
 generalize (a1*a3*(a2*a4)+a1*b3*(a2*b4)+b1*b2)*(a1*a3*(a2*a4)+a1*b3*(a2*b4)+b1*b2)=Y at*
 unfold f9 at*
 constructor<;>grind
theorem yR {x n s b:Rat} (s0:0<=s) (b0:0<=b) (h:f9 n (s*s) (b*b)):(0<=x->x*x<=n->x<=s+b)/\(0<=x->n<=x*x->s-b<=x):=by
 unfold f9 at h
 constructor
 ·intro x0 hx
  apply Classical.byContradiction
  intro g
  have:=Rat.mul_pos (show 0<x-(s+b) by grind) (show 0<x+(s+b) by grind)
  have:=Rat.mul_nonneg s0 b0
  grind
 ·intro x0 hx
  apply Classical.byContradiction
  intro g
  have:=Rat.mul_pos (show 0<(s-b)-x by grind) (show 0<(s-b)+x by grind)
  have:=Rat.mul_nonneg b0 (show 0<=s-b by grind)
  grind
def qv (la lb n:Int):Rat:=fR.c' (uW*(lb-la))-fR.c' (uW*la)*fR.c' (uW*lb)*(1-fR.c' (uW*n))
theorem JP (la lb n:Int):qv la lb n=fR.c' (uW*la)*fR.c' (uW*lb)*fR.c' (uW*n)+fR.s' (uW*la)*fR.s' (uW*lb):=by
 unfold qv
 rw [show (uW:Int)*(lb-la)=uW*lb-uW*la by rw [Int.mul_sub],(aU _ _).2]
 generalize fR.c' (uW*la)=c1
 generalize fR.s' (uW*la)=s1
 generalize fR.c' (uW*lb)=c2
 generalize fR.s' (uW*lb)=s2
 grind
theorem a2l {q:Rat} (h:0<=1-q*q): -1<=q/\q<=1:=by
 constructor
 ·apply Classical.byContradiction
  intro g
  have:=Rat.mul_pos (show 0< -1-q by grind) (show 0<1-q by grind)
  grind
 ·apply Classical.byContradiction
  intro g
  have:=Rat.mul_pos (show 0<q-1 by grind) (show 0<q+1 by grind)
  grind
theorem TK {c1 s1 c2 s2 c3 s3:Rat} (u1:c1*c1+s1*s1=1) (u2:c2*c2+s2*s2=1) (u3:c3*c3+s3*s3=1): -1<=c1*c2*c3+s1*s2/\c1*c2*c3+s1*s2<=1:=by
 apply a2l
 have e:1-(c1*c2*c3+s1*s2)*(c1*c2*c3+s1*s2)=c1*s3*s2*(c1*s3*s2)+(s1*c2-c1*c3*s2)*(s1*c2-c1*c3*s2)+c1*s3*c2*(c1*s3*c2):=by grind
 have p:=x7 (c1*s3*s2)
 have q:=x7 (s1*c2-c1*c3*s2)
 have r:=x7 (c1*s3*c2)
 grind
theorem pM (la lb n:Int): -1<=qv la lb n/\qv la lb n<=1:=by
 rw [JP]
 exact TK (fR.z_one (uW*la)) (fR.z_one (uW*lb)) (fR.z_one (uW*n))
def Y6 (la lb n:Int):I2:=vF (dS (lb-la)) (F6 (F6 (B6 la) (B6 lb)) (dS n))
def oO (la lb n:Int):I2:=vF (F6 (I0 la) (I0 lb)) (F6 (F6 (B6 la) (B6 lb)) (B6 n))
theorem aX {a x:Rat} (h:f9 a x dX) (k: -1<=x/\x<=1): -11/10<=a/\a<=11/10:=by
 have e:=aE
 have f:(1:Rat)/2^52<=1/10:=by decide+kernel
 unfold f9 at h
 generalize dX=E at*
 generalize (1/2^52:Rat)=F at*
 constructor<;>grind
theorem vK {a b x y:Rat} (ha: -x<=a/\a<=x) (hb: -y<=b/\b<=y): -(x*y)<=a*b/\a*b<=x*y:=A6 ha.1 ha.2 hb.1 hb.2
theorem kO (la lb n:Int) (h1:la.natAbs<=5400000) (h2:lb.natAbs<=5400000) (h3:n.natAbs<=21600000):
  (x8 (B6 la).1 (B6 la).2=true/\x8 (B6 lb).1 (B6 lb).2=true/\x8 (I0 la).1 (I0 la).2=true/\x8 (I0 lb).1 (I0 lb).2=true/\x8 (B6 n).1 (B6 n).2=true/\x8 (dS n).1 (dS n).2=true/\x8 (dS (lb-la)).1 (dS (lb-la)).2=true)/\
  x8 (F6 (B6 la) (B6 lb)).1 (F6 (B6 la) (B6 lb)).2=true/\x8 (F6 (F6 (B6 la) (B6 lb)) (dS n)).1 (F6 (F6 (B6 la) (B6 lb)) (dS n)).2=true/\x8 (F6 (F6 (B6 la) (B6 lb)) (B6 n)).1 (F6 (F6 (B6 la) (B6 lb)) (B6 n)).2=true/\
  x8 (F6 (I0 la) (I0 lb)).1 (F6 (I0 la) (I0 lb)).2=true/\x8 (Y6 la lb n).1 (Y6 la lb n).2=true/\x8 (oO la lb n).1 (oO la lb n).2=true/\
  ∃h g:Rat,dE (Y6 la lb n) h 26/\dE (oO la lb n) g 32/\f9 h ((1-qv la lb n)/2) (20*dX)/\f9 g (qv la lb n) (20*dX):=by
 obtain ⟨a1,i1,n1⟩:=N6 la (by omega)
 obtain ⟨b1,j1,m1⟩:=X4 la (by omega)
 obtain ⟨a2,i2,n2⟩:=N6 lb (by omega)
 obtain ⟨b2,j2,m2⟩:=X4 lb (by omega)
 obtain ⟨a3,i3,n3⟩:=N6 n (by omega)
 obtain ⟨a4,i4,n4⟩:=N6 (lb-la) (by omega)
 have z1:=fR.z_bd (uW*la)
 have z2:=fR.z_bd (uW*lb)
 have z3:=fR.z_bd (uW*n)
 have z4:=fR.z_bd (uW*(lb-la))
 have c1:=aX n1 z1.1
 have c2:=aX n2 z2.1
 have c3:=aX n3 z3.1
 have c4:=aX n4 z4.1
 have s1:=aX m1 z1.2
 have s2:=aX m2 z2.2
 have e:=aE
 have f:(1:Rat)/2^52<=1/10:=by decide+kernel
 have k3:=xQ n i3
 have k4:=xQ (lb-la) i4
 have cc:=G3 i1 i2 (by constructor<;>grind) (by constructor<;>grind) (by decide+kernel)
 have ncc:=D8 n1 n2 z1.1 z2.1 (by grind)
 have bcc:=vK (x:=11/10) (y:=11/10) (by constructor<;>grind) (by constructor<;>grind) (a:=a1) (b:=a2)
 have ch:=G3 cc k3 (by constructor<;>grind) (by constructor<;>grind) (by decide+kernel)
 have cn:=G3 cc i3 (by constructor<;>grind) (by constructor<;>grind) (by decide+kernel)
 have ss:=G3 j1 j2 (by constructor<;>grind) (by constructor<;>grind) (by decide+kernel)
 have bch:=vK (x:=11/10*(11/10)) (y:=11/10) (a:=a1*a2) (b:=(1-a3)/2) bcc (by constructor<;>grind)
 have bcn:=vK (x:=11/10*(11/10)) (y:=11/10) (a:=a1*a2) (b:=a3) bcc (by constructor<;>grind)
 have bss:=vK (x:=11/10) (y:=11/10) (a:=b1) (b:=b2) (by constructor<;>grind) (by constructor<;>grind)
 have D:=jF k4 ch
 have A:=jF ss cn
 have nss:=D8 m1 m2 z1.2 z2.2 (by grind)
 have bc:=kY z1.1 z2.1
 have ncn:=D8 ncc n3 bc z3.1 (by grind)
 have nA:=oQ (Z6 nss ncn) (y:=qv la lb n) (f:=10*dX) (by rw [JP];grind) (by grind)
 have nD:f9 ((1-a4)/2+a1*a2*((1-a3)/2)) ((1-qv la lb n)/2) (20*dX):=by
  have l:(1-a4)/2+a1*a2*((1-a3)/2)=(1-(a4-(a1*a2-a1*a2*a3)))/2:=by grind
  rw [l]
  unfold qv
  generalize fR.c' (uW*(lb-la))=C4 at*
  generalize fR.c' (uW*la)=C1 at*
  generalize fR.c' (uW*lb)=C2 at*
  generalize fR.c' (uW*n)=C3 at*
  generalize a1*a2*a3=x at*
  generalize a1*a2=y at*
  have l2:C1*C2*(1-C3)=C1*C2-C1*C2*C3:=by grind
  rw [l2]
  generalize C1*C2*C3=X at*
  generalize C1*C2=Y at*
  unfold f9 at*
  constructor<;>grind
 have qb:=pM la lb n
 refine ⟨⟨P7 i1 ?_ ?_,P7 i2 ?_ ?_,P7 j1 ?_ ?_,P7 j2 ?_ ?_,P7 i3 ?_ ?_,P7 k3 ?_ ?_,P7 k4 ?_ ?_⟩,P7 cc ?_ ?_,P7 ch ?_ ?_,P7 cn ?_ ?_,P7 ss ?_ ?_,P7 D ?_ ?_,P7 A ?_ ?_,_,_,dJ D ?_,dJ A ?_,nD,L5 nA ?_⟩
 all_goals first|decide+kernel|(constructor<;>grind)|skip
 all_goals unfold f9 at nD nA
 all_goals first|(constructor<;>grind)|grind
theorem eP (la lb n m:Int) (h1:la.natAbs<=5400000) (h2:lb.natAbs<=5400000) (h3:n.natAbs<=21600000) (m0:0<=m) (m1:m<=2*kQ) (hm:f9 (fR.c' m) (qv la lb n) (1/2^60)):
  (Y6 la lb n).1<=1073741824/\0<=(Y6 la lb n).2/\0<=Y5 (Y6 la lb n).1/\Y5 (Y6 la lb n).1<=10800000/\0<=fH (Y6 la lb n).2/\fH (Y6 la lb n).2<=10800000/\
  uW*Y5 (Y6 la lb n).1<=m+2^78+2^42/\m<=uW*fH (Y6 la lb n).2+2^78/\(Y5 (Y6 la lb n).1=0\/qv la lb n<=fR.c' (uW*Y5 (Y6 la lb n).1)+1/2^51):=by
 obtain ⟨_,_,_,_,_,_,_,h,g,ih,ig,nh,ng⟩:=kO la lb n h1 h2 h3
 have qb:=pM la lb n
 have e:=aE
 have f:(1:Rat)/2^52+1/2^60+1/2^52<=1/2^50/\(1:Rat)/2^52<=1/2^51/\(1073741824:Rat)*(1/2^52)<=1/10/\(0:Rat)<=1/2^60:=by decide+kernel
 unfold dE iv at ih
 generalize Y6 la lb n=p at*
 obtain ⟨t1,t2⟩:=p
 simp only at*
 clear ig ng
 have p1:t1<=1073741824:=by
  have:(t1:Rat)<((1073741825:Int):Rat):=by
   have k:((1073741825:Int):Rat)=1073741825:=rfl
   rw [k]
   unfold f9 at nh
   generalize qv la lb n=q at*
   generalize dX=E at*
   generalize (1/2^52:Rat)=F at*
   grind
  have:=Rat.intCast_lt_intCast.1 this
  omega
 have p2:0<=t2:=by
  have:((-1:Int):Rat)<t2:=by
   have k:((-1:Int):Rat)= -1:=rfl
   rw [k]
   unfold f9 at nh
   generalize qv la lb n=q at*
   generalize dX=E at*
   generalize (1/2^52:Rat)=F at*
   grind
  have:=Rat.intCast_lt_intCast.1 this
  omega
 have L:=a2t t1 p1
 have H:=a2Q t2 p2
 have uw0:(uW:Int)*0=0:=rfl
 have uw1:(uW:Int)*10800000=13056398851837995084627677544448*1+(uW*10800000-13056398851837995084627677544448):=by omega
 have kk:kQ=5400000*2^80-2^40:=rfl
 have w:=jX 10800000
 have L4:Y5 t1=0\/qv la lb n<=fR.c' (uW*Y5 t1)+1/2^52:=by
  rcases L.2.2 with l|⟨u,nu,hu⟩
  ·exact .inl l
  ·right
   have mx:((1073741824-2*max t1 0:Int):Rat)=1073741824-2*((max t1 0:Int):Rat):=by push_cast;rfl
   rw [mx] at hu
   have mm:((max t1 0:Int):Rat)=(t1:Rat)\/((max t1 0:Int):Rat)=0:=by
    rcases (show max t1 0=t1\/max t1 0=0 by omega) with k|k<;>rw [k]
    ·exact .inl rfl
    ·exact .inr rfl
   rw [e.2.2] at nu
   obtain ⟨v,hv,nv⟩:=H5 (show (0:Rat)<1073741824 by decide) nu
   unfold f9 at nh nv
   generalize ((max t1 0:Int):Rat)=x at*
   generalize fR.c' (uW*Y5 t1)=y at*
   generalize qv la lb n=q at*
   generalize dX=E at*
   generalize (1/2^52:Rat)=F at*
   rcases mm with k|k<;>grind
 refine ⟨p1,p2,L.1,L.2.1,H.1,H.2.1,?_,?_,?_⟩
 ·rcases L4 with l|l
  ·rw [l];omega
  ·refine a0J _ m L.1 L.2.1 m0 m1 ?_
   unfold f9 at hm
   generalize fR.c' (uW*Y5 t1)=y at*
   generalize fR.c' m=c at*
   generalize qv la lb n=q at*
   generalize (1/2^52:Rat)=F at*
   grind
 ·rcases H.2.2 with l|⟨u,nu,hu⟩
  ·rw [l];omega
  ·refine a0V _ m H.1 m1 ?_
   have mx:((1073741824-2*min t2 1073741824:Int):Rat)=1073741824-2*((min t2 1073741824:Int):Rat):=by push_cast;rfl
   rw [mx] at hu
   have mm:((min t2 1073741824:Int):Rat)=(t2:Rat)\/((min t2 1073741824:Int):Rat)=1073741824:=by
    rcases (show min t2 1073741824=t2\/min t2 1073741824=1073741824 by omega) with k|k<;>rw [k]
    ·exact .inl rfl
    ·exact .inr rfl
   rw [e.2.2] at nu
   obtain ⟨v,hv,nv⟩:=H5 (show (0:Rat)<1073741824 by decide) nu
   unfold f9 at nh nv hm
   generalize ((min t2 1073741824:Int):Rat)=x at*
   generalize fR.c' (uW*fH t2)=y at*
   generalize fR.c' m=c at*
   generalize qv la lb n=q at*
   generalize dX=E at*
   generalize (1/2^52:Rat)=F at*
   rcases mm with k|k<;>grind
 ·rcases L4 with l|l
  ·exact .inl l
  ·right
   generalize fR.c' (uW*Y5 t1)=y at*
   generalize (1/2^52:Rat)=F at*
   generalize qv la lb n=q at*
   grind
theorem BX (la lb n:Int) (h1:la.natAbs<=5400000) (h2:lb.natAbs<=5400000) (h3:n.natAbs<=21600000):
  (oO la lb n).1<=1073741824/\ -1073741824<=(oO la lb n).2/\cW (oO la lb n).1+Y5 (Y6 la lb n).1<=5400000/\5400000<=cT (oO la lb n).2+fH (Y6 la lb n).2:=by
 obtain ⟨_,_,_,_,_,_,_,h,g,ih,ig,nh,ng⟩:=kO la lb n h1 h2 h3
 have qb:=pM la lb n
 have e:=aE
 have f:(1073741824:Rat)*(1/2^52)<=1/10:=by decide+kernel
 unfold dE iv at ih ig
 generalize Y6 la lb n=p at*
 generalize oO la lb n=r at*
 obtain ⟨t1,t2⟩:=p
 obtain ⟨x1,x2⟩:=r
 simp only at*
 unfold f9 at nh ng
 generalize qv la lb n=q at*
 generalize dX=E at*
 generalize (1/2^52:Rat)=F at*
 have i1:x1<=1073741824:=by
  have:(x1:Rat)<((1073741825:Int):Rat):=by have k:((1073741825:Int):Rat)=1073741825:=rfl;rw [k];grind
  have:=Rat.intCast_lt_intCast.1 this;omega
 have i2: -1073741824<=x2:=by
  have:((-1073741825:Int):Rat)<x2:=by have k:((-1073741825:Int):Rat)= -1073741825:=rfl;rw [k];grind
  have:=Rat.intCast_lt_intCast.1 this;omega
 have i3:x1<=1073741824-2*t1:=by
  have:(x1:Rat)<((1073741824-2*t1+1:Int):Rat):=by push_cast;grind
  have:=Rat.intCast_lt_intCast.1 this;omega
 have i4:1073741824-2*t2<=x2:=by
  have:((1073741824-2*t2-1:Int):Rat)<x2:=by push_cast;grind
  have:=Rat.intCast_lt_intCast.1 this;omega
 have i5:t1<=1073741824:=by
  have:(t1:Rat)<((1073741825:Int):Rat):=by have k:((1073741825:Int):Rat)=1073741825:=rfl;rw [k];grind
  have:=Rat.intCast_lt_intCast.1 this;omega
 have i6:0<=t2:=by
  have:((-1:Int):Rat)<t2:=by have k:((-1:Int):Rat)= -1:=rfl;rw [k];grind
  have:=Rat.intCast_lt_intCast.1 this;omega
 refine ⟨i1,i2,?_,?_⟩
 ·unfold cW Y5 cT
  have m:=aV (show max x1 (-1073741824)<=1073741824-2*max t1 0 by omega)
  have n:=sF (1073741824-2*max t1 0)
  rw [show min (1073741824-2*max t1 0) 1073741824=1073741824-2*max t1 0 by omega]
  omega
 ·unfold cT fH cW
  have m:=aV (show 1073741824-2*min t2 1073741824<=min x2 1073741824 by omega)
  have n:=sF (min x2 1073741824)
  rw [show max (1073741824-2*min t2 1073741824) (-1073741824)=1073741824-2*min t2 1073741824 by omega]
  omega
def vX (la lo:Int):I2:=F6 (B6 la) (B6 lo)
def vY (la lo:Int):I2:=F6 (B6 la) (I0 lo)
def vZ (la:Int):I2:=I0 la
def crX (la lo lb lob:Int):I2:=AY (F6 (vY la lo) (vZ lb)) (F6 (vZ la) (vY lb lob))
def crY (la lo lb lob:Int):I2:=AY (F6 (vZ la) (vX lb lob)) (F6 (vX la lo) (vZ lb))
def crZ (la lo lb lob:Int):I2:=AY (F6 (vX la lo) (vY lb lob)) (F6 (vY la lo) (vX lb lob))
def dt1 (la lo lb lob:Int):I2:=vF (F6 (vX la lo) (vX lb lob)) (F6 (vY la lo) (vY lb lob))
def uY (la lo lb lob:Int):I2:=vF (dt1 la lo lb lob) (F6 (vZ la) (vZ lb))
def nm1 (la lo lb lob:Int):I2:=vF (WW (crX la lo lb lob)) (WW (crY la lo lb lob))
def wQ (la lo lb lob:Int):I2:=vF (nm1 la lo lb lob) (WW (crZ la lo lb lob))
def N9 (p:I2):Prop:=x8 p.1 p.2=true
def bq (a x:Rat):Prop:= -x<=a/\a<=x
theorem J9 {a b x y:Rat} (h:bq a x) (k:bq b y):bq (a*b) (x*y):=A6 h.1 h.2 k.1 k.2
theorem u7 {a x y:Rat} (h:bq a x) (k:x<=y):bq a y:=by unfold bq at*;constructor<;>grind
theorem P5 {a x:Rat} (h:f9 a x dX) (k: -1<=x/\x<=1):bq a (101/100):=by
 have e:=aE
 have f:(1:Rat)/2^52<=1/100:=by decide+kernel
 unfold f9 at h
 unfold bq
 generalize dX=E at*
 generalize (1/2^52:Rat)=F at*
 constructor<;>grind
theorem A8 {p:I2} {u w:Rat} (h:dE p u w) (hu:bq u (15/10)) (hw:w<=400000):N9 p:=P7 h (by unfold bq at hu;constructor<;>grind) hw
theorem TZ {x n:Rat} (h:x*x<=n) (k:n<=12/10):bq x (15/10):=by
 unfold bq
 constructor
 ·apply Classical.byContradiction
  intro g
  have:=Rat.mul_pos (show 0< -(15/10)-x by grind) (show 0<15/10-x by grind)
  grind
 ·apply Classical.byContradiction
  intro g
  have:=Rat.mul_pos (show 0<x-15/10 by grind) (show 0<x+15/10 by grind)
  grind
set_option maxHeartbeats 1000000 in
theorem uN (la lo lb lob:Int) (h1:la.natAbs<=5400000) (h2:lb.natAbs<=5400000) (h3:lo.natAbs<=10800000) (h4:lob.natAbs<=10800000):
  (N9 (B6 la)/\N9 (I0 la)/\N9 (B6 lb)/\N9 (I0 lb)/\N9 (B6 lo)/\N9 (I0 lo)/\N9 (B6 lob)/\N9 (I0 lob))/\
  (N9 (vX la lo)/\N9 (vY la lo)/\N9 (vX lb lob)/\N9 (vY lb lob))/\
  (N9 (F6 (vY la lo) (vZ lb))/\N9 (F6 (vZ la) (vY lb lob))/\N9 (F6 (vZ la) (vX lb lob))/\N9 (F6 (vX la lo) (vZ lb))/\N9 (F6 (vX la lo) (vY lb lob))/\N9 (F6 (vY la lo) (vX lb lob)))/\
  (N9 (crX la lo lb lob)/\N9 (crY la lo lb lob)/\N9 (crZ la lo lb lob))/\
  (N9 (F6 (vX la lo) (vX lb lob))/\N9 (F6 (vY la lo) (vY lb lob))/\N9 (F6 (vZ la) (vZ lb))/\N9 (dt1 la lo lb lob)/\N9 (uY la lo lb lob))/\
  (N9 (WW (crX la lo lb lob))/\N9 (WW (crY la lo lb lob))/\N9 (WW (crZ la lo lb lob))/\N9 (nm1 la lo lb lob)/\N9 (wQ la lo lb lob))/\
  ∃D N:Rat,dE (uY la lo lb lob) D 100/\dE (wQ la lo lb lob) N 2000/\f9 D (qv la lb (lob-lo)) (21*dX)/\f9 N (1-qv la lb (lob-lo)*qv la lb (lob-lo)) (126*dX)/\0<=N:=by
 obtain ⟨a1,i1,n1⟩:=N6 la (by omega)
 obtain ⟨b1,j1,m1⟩:=X4 la (by omega)
 obtain ⟨a2,i2,n2⟩:=N6 lb (by omega)
 obtain ⟨b2,j2,m2⟩:=X4 lb (by omega)
 obtain ⟨a3,i3,n3⟩:=N6 lo (by omega)
 obtain ⟨b3,j3,m3⟩:=X4 lo (by omega)
 obtain ⟨a4,i4,n4⟩:=N6 lob (by omega)
 obtain ⟨b4,j4,m4⟩:=X4 lob (by omega)
 have z1:=fR.z_bd (uW*la)
 have z2:=fR.z_bd (uW*lb)
 have z3:=fR.z_bd (uW*lo)
 have z4:=fR.z_bd (uW*lob)
 have c1:=P5 n1 z1.1
 have c2:=P5 n2 z2.1
 have c3:=P5 n3 z3.1
 have c4:=P5 n4 z4.1
 have s1:=P5 m1 z1.2
 have s2:=P5 m2 z2.2
 have s3:=P5 m3 z3.2
 have s4:=P5 m4 z4.2
 have e:=aE
 have f:(1:Rat)/2^52<=1/100:=by decide+kernel
 have qb:=pM la lb (lob-lo)
 have E:=YB (fR.z_one (uW*la)) (fR.z_one (uW*lb)) (fR.z_one (uW*lo)) (fR.z_one (uW*lob)) n1 m1 n2 m2 n3 m3 n4 m4 (by grind) (q:=qv la lb (lob-lo)) (by
  rw [JP,show (uW:Int)*(lob-lo)=uW*lob-uW*lo by rw [Int.mul_sub],(aU _ _).2]
  generalize fR.c' (uW*lob)=x
  generalize fR.c' (uW*lo)=y
  generalize fR.s' (uW*lob)=u
  generalize fR.s' (uW*lo)=v
  grind) qb
 have l1:(101/100:Rat)<=2/\(101/100:Rat)<=15/10/\(101/100*(101/100):Rat)<=2/\(101/100*(101/100):Rat)<=15/10/\(101/100*(101/100)*(101/100):Rat)<=15/10/\(101/100*(101/100)*(101/100*(101/100)):Rat)<=15/10/\(15/10:Rat)<=2:=by decide+kernel
 have ax:=G3 i1 i3 (u7 c1 l1.1) (u7 c3 l1.1) (by decide+kernel)
 have ay:=G3 i1 j3 (u7 c1 l1.1) (u7 s3 l1.1) (by decide+kernel)
 have bx:=G3 i2 i4 (u7 c2 l1.1) (u7 c4 l1.1) (by decide+kernel)
 have by':=G3 i2 j4 (u7 c2 l1.1) (u7 s4 l1.1) (by decide+kernel)
 have qax:=J9 c1 c3
 have qay:=J9 c1 s3
 have qbx:=J9 c2 c4
 have qby:=J9 c2 s4
 have p1:=G3 ay j2 (u7 qay l1.2.2.1) (u7 s2 l1.1) (by decide+kernel)
 have p2:=G3 j1 by' (u7 s1 l1.1) (u7 qby l1.2.2.1) (by decide+kernel)
 have p3:=G3 j1 bx (u7 s1 l1.1) (u7 qbx l1.2.2.1) (by decide+kernel)
 have p4:=G3 ax j2 (u7 qax l1.2.2.1) (u7 s2 l1.1) (by decide+kernel)
 have p5:=G3 ax by' (u7 qax l1.2.2.1) (u7 qby l1.2.2.1) (by decide+kernel)
 have p6:=G3 ay bx (u7 qay l1.2.2.1) (u7 qbx l1.2.2.1) (by decide+kernel)
 have d1:=G3 ax bx (u7 qax l1.2.2.1) (u7 qbx l1.2.2.1) (by decide+kernel)
 have d2:=G3 ay by' (u7 qay l1.2.2.1) (u7 qby l1.2.2.1) (by decide+kernel)
 have d3:=G3 j1 j2 (u7 s1 l1.1) (u7 s2 l1.1) (by decide+kernel)
 have k1:=lZ p1 p2
 have k2:=lZ p3 p4
 have k3:=lZ p5 p6
 have d4:=jF d1 d2
 have d5:=jF d4 d3
 have q1:=J9 qay s2
 have q2:=J9 s1 qby
 have q3:=J9 s1 qbx
 have q4:=J9 qax s2
 have q5:=J9 qax qby
 have q6:=J9 qay qbx
 have q7:=J9 qax qbx
 have q8:=J9 qay qby
 have q9:=J9 s1 s2
 have nss:=D8 m1 m2 z1.2 z2.2 (by grind)
 have bcc:=kY (kY z1.1 z2.1) (fR.z_bd (uW*(lob-lo))).1
 have rq:=JP la lb (lob-lo)
 obtain ⟨ED,EN⟩:=E
 obtain ⟨x1,hx1⟩:∃x,a1*b3*b2-b1*(a2*b4)=x:=⟨_,rfl⟩
 obtain ⟨x2,hx2⟩:∃x,b1*(a2*a4)-a1*a3*b2=x:=⟨_,rfl⟩
 obtain ⟨x3,hx3⟩:∃x,a1*a3*(a2*b4)-a1*b3*(a2*a4)=x:=⟨_,rfl⟩
 rw [hx1] at EN k1
 rw [hx2] at EN k2
 rw [hx3] at EN k3
 have y1:=x7 x1
 have y2:=x7 x2
 have y3:=x7 x3
 have qq:=x7 (qv la lb (lob-lo))
 have NN:x1*x1+x2*x2+x3*x3<=101/100:=by
  unfold f9 at EN
  generalize qv la lb (lob-lo)*qv la lb (lob-lo)=Q at*
  generalize dX=H at*
  generalize (1/2^52:Rat)=F at*
  generalize x1*x1+x2*x2+x3*x3=N at*
  grind
 have X1:=TZ (show x1*x1<=101/100 by grind) (by decide+kernel)
 have X2:=TZ (show x2*x2<=101/100 by grind) (by decide+kernel)
 have X3:=TZ (show x3*x3<=101/100 by grind) (by decide+kernel)
 have r1:=DH k1 (u7 X1 l1.2.2.2.2.2.2) (by decide+kernel)
 have r2:=DH k2 (u7 X2 l1.2.2.2.2.2.2) (by decide+kernel)
 have r3:=DH k3 (u7 X3 l1.2.2.2.2.2.2) (by decide+kernel)
 have r4:=jF r1 r2
 have r5:=jF r4 r3
 have D4:bq (a1*a3*(a2*a4)+a1*b3*(a2*b4)) (15/10):=by
  unfold f9 at ED nss
  unfold bq
  rw [rq] at ED
  generalize fR.c' (uW*la)*fR.c' (uW*lb)*fR.c' (uW*(lob-lo))=C at*
  generalize fR.s' (uW*la)*fR.s' (uW*lb)=S at*
  generalize a1*a3*(a2*a4)+a1*b3*(a2*b4)=x at*
  generalize b1*b2=y at*
  generalize dX=H at*
  generalize (1/2^52:Rat)=F at*
  constructor<;>grind
 have D5:bq (a1*a3*(a2*a4)+a1*b3*(a2*b4)+b1*b2) (15/10):=by
  unfold f9 at ED
  unfold bq
  generalize a1*a3*(a2*a4)+a1*b3*(a2*b4)+b1*b2=x at*
  generalize qv la lb (lob-lo)=q at*
  generalize dX=H at*
  generalize (1/2^52:Rat)=F at*
  constructor<;>grind
 have Y:∀z:Rat,0<=z->z<=101/100->bq z (15/10):=fun z h k=>by unfold bq;constructor<;>grind
 refine ⟨⟨A8 i1 (u7 c1 l1.2.1) (by decide+kernel),A8 j1 (u7 s1 l1.2.1) (by decide+kernel),A8 i2 (u7 c2 l1.2.1) (by decide+kernel),A8 j2 (u7 s2 l1.2.1) (by decide+kernel),A8 i3 (u7 c3 l1.2.1) (by decide+kernel),A8 j3 (u7 s3 l1.2.1) (by decide+kernel),A8 i4 (u7 c4 l1.2.1) (by decide+kernel),A8 j4 (u7 s4 l1.2.1) (by decide+kernel)⟩,
  ⟨A8 ax (u7 qax l1.2.2.2.1) (by decide+kernel),A8 ay (u7 qay l1.2.2.2.1) (by decide+kernel),A8 bx (u7 qbx l1.2.2.2.1) (by decide+kernel),A8 by' (u7 qby l1.2.2.2.1) (by decide+kernel)⟩,
  ⟨A8 p1 (u7 q1 l1.2.2.2.2.1) (by decide+kernel),A8 p2 (u7 q2 ?_) (by decide+kernel),A8 p3 (u7 q3 ?_) (by decide+kernel),A8 p4 (u7 q4 l1.2.2.2.2.1) (by decide+kernel),A8 p5 (u7 q5 l1.2.2.2.2.2.1) (by decide+kernel),A8 p6 (u7 q6 l1.2.2.2.2.2.1) (by decide+kernel)⟩,
  ⟨A8 k1 X1 (by decide+kernel),A8 k2 X2 (by decide+kernel),A8 k3 X3 (by decide+kernel)⟩,
  ⟨A8 d1 (u7 q7 l1.2.2.2.2.2.1) (by decide+kernel),A8 d2 (u7 q8 l1.2.2.2.2.2.1) (by decide+kernel),A8 d3 (u7 q9 l1.2.2.2.1) (by decide+kernel),A8 d4 D4 (by decide+kernel),A8 d5 D5 (by decide+kernel)⟩,
  ⟨A8 r1 (Y _ y1 (by grind)) (by decide+kernel),A8 r2 (Y _ y2 (by grind)) (by decide+kernel),A8 r3 (Y _ y3 (by grind)) (by decide+kernel),A8 r4 (Y _ (by grind) (by grind)) (by decide+kernel),A8 r5 (Y _ (by grind) (by grind)) (by decide+kernel)⟩,
  _,_,dJ d5 (by decide+kernel),dJ r5 (by decide+kernel),ED,EN,by grind⟩
 ·decide+kernel
 ·decide+kernel
end Go.Proofs.YtdhbeoahpfimbaaGreat
