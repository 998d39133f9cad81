/- Part of the proof of TopDistances. -/
import Derived.Test.YtdhbeoahpfimbaaGreatPc
namespace Go.Proofs.YtdhbeoahpfimbaaGreat
open Rot
def vN:Int:=2^192
theorem jZ:(1000000:Rat)<=(vN:Rat):=by decide+kernel
theorem aG:1000000<=vN:=by decide+kernel
def aT (z:Int):Nat->Int
 |0=>z
 |j+1=>aT z j*(z*z/vN)/vN
def aS (z:Int):Nat->Int
 |0=>0
 |j+1=>aS z j+aT z j/(2*(j:Int)+1)
theorem PT {t x d e:Rat} (hd:1<=d) (h:f9 t x e) (e0:0<=e):f9 (t/d) (x/d) e:=by
 have a:t/d*d=t:=Rat.div_mul_cancel (by grind)
 have b:x/d*d=x:=Rat.div_mul_cancel (by grind)
 unfold f9 at*
 generalize t/d=p at*
 generalize x/d=q at*
 have m:=Rat.mul_nonneg e0 (show 0<=d-1 by grind)
 constructor
 ·have:=b8 (show 0<d by grind) (show 0<=d*(p-(q-e)) by grind);grind
 ·have:=b8 (show 0<d by grind) (show 0<=d*(q+e-p) by grind);grind
theorem MS (X V:Int) (hV:0<V):f9 ((X/V:Int):Rat) ((X:Rat)/V) 1:=by
 have a:=R6 X V hV
 have p:(0:Rat)<V:=by have:=Rat.intCast_lt_intCast.2 hV;exact_mod_cast this
 have b:(X:Rat)/V*V=X:=Rat.div_mul_cancel (by grind)
 unfold f9
 generalize (X:Rat)/V=q at*
 generalize ((X/V:Int):Rat)=k at*
 constructor
 ·have:=b8 p (show 0<=(V:Rat)*(k-(q-1)) by grind);grind
 ·have:=b8 p (show 0<=(V:Rat)*(q+1-k) by grind);grind
theorem OX {a b x y e f:Rat} (h:f9 a x e) (k:f9 b y f):f9 (a+b) (x+y) (e+f):=by unfold f9 at*;constructor<;>grind
theorem GN {a b c e f:Rat} (h:f9 a b e) (k:f9 b c f):f9 a c (e+f):=by unfold f9 at*;constructor<;>grind
theorem a0C (z:Int) (x:Rat) (z0:0<=z) (hx:(z:Rat)=vN*x) (x1:x<=1/3) (j:Nat):f9 (aT z j) (vN*pw x (2*j+1)) 2/\0<=pw x (2*j+1)/\pw x (2*j+1)<=1/3:=by
 have v0:=jZ
 have x0:0<=x:=b8 (show (0:Rat)<vN by grind) (by rw [<-hx];exact_mod_cast v6 z0)
 induction j with
 |zero=>
  simp only [aT,pw,Rat.one_mul]
  exact ⟨by unfold f9;constructor<;>grind,x0,x1⟩
 |succ j ih=>
  have e:pw x (2*(j+1)+1)=pw x (2*j+1)*(x*x):=by rw [show 2*(j+1)+1=2*j+1+1+1 by omega];simp only [pw];grind
  have xx:x*x<=1/9:=by have:=Rat.mul_nonneg (show 0<=1/3-x by grind) (show 0<=1/3+x by grind);grind
  have xx0:=Rat.mul_nonneg x0 x0
  have s:=R6 (z*z) vN (by have:=aG;omega)
  have t:=R6 (aT z j*(z*z/vN)) vN (by have:=aG;omega)
  rw [Rat.intCast_mul,hx] at s
  rw [Rat.intCast_mul] at t
  rw [e]
  change f9 ((aT z j*(z*z/vN)/vN:Int):Rat) _ _/\_
  generalize ((aT z j*(z*z/vN)/vN:Int):Rat)=y at*
  generalize ((z*z/vN:Int):Rat)=q at*
  generalize (aT z j:Rat)=u at*
  generalize pw x (2*j+1)=p at*
  have P:=Rat.mul_nonneg ih.2.1 xx0
  have P1:=Rat.mul_nonneg ih.2.1 (show 0<=1/9-x*x by grind)
  refine ⟨?_,P,by grind⟩
  have hn:=ih.1
  unfold f9 at*
  generalize (vN:Rat)=V at*
  clear e hx
  obtain ⟨f,hf⟩:∃f,q=V*(x*x)+f:=⟨q-V*(x*x),by grind⟩
  obtain ⟨g,hg⟩:∃g,u=V*p+g:=⟨u-V*p,by grind⟩
  have V0:0<V:=by grind
  rw [hf] at s
  have f1: -1<=f/\f<=0:=by
   constructor
   ·have:=b8 V0 (show 0<=V*(f+1) by grind);grind
   ·have:=b8 V0 (show 0<=V*(-f) by grind);grind
  have g1: -2<=g/\g<=2:=by constructor<;>grind
  subst hf
  subst hg
  have m1:=A6 (a:=g) (b:=f) (e:=2) (f:=1) g1.1 g1.2 f1.1 (by grind)
  have m2:=A6 (a:=p) (b:=f) (e:=1/3) (f:=1) (by grind) ih.2.2 f1.1 (by grind)
  have m3:=A6 (a:=g) (b:=x*x) (e:=2) (f:=1/9) g1.1 g1.2 (by grind) xx
  have n1:=Rat.mul_nonneg (Rat.le_of_lt V0) (show 0<=p*f+1/3 by grind)
  have n2:=Rat.mul_nonneg (Rat.le_of_lt V0) (show 0<=1/3-p*f by grind)
  have n3:=Rat.mul_nonneg (Rat.le_of_lt V0) (show 0<=g*(x*x)+2/9 by grind)
  have n4:=Rat.mul_nonneg (Rat.le_of_lt V0) (show 0<=2/9-g*(x*x) by grind)
  constructor
  ·have:=b8 V0 (show 0<=V*(y-(V*(p*(x*x))-2)) by grind);grind
  ·have:=b8 V0 (show 0<=V*(V*(p*(x*x))+2-y) by grind);grind
theorem a0Q (z:Int) (x:Rat) (z0:0<=z) (hx:(z:Rat)=vN*x) (x1:x<=1/3) (j:Nat):f9 (aS z j) (vN*eX x j) (3*j):=by
 induction j with
 |zero=>unfold f9;simp only [aS,eX];constructor<;>grind
 |succ j ih=>
  have a:=a0C z x z0 hx x1 j
  have j0:(0:Rat)<=j:=by exact_mod_cast Nat.zero_le j
  have d:=PT (d:=2*(j:Rat)+1) (by grind) a.1 (by decide)
  have e:=MS (aT z j) (2*(j:Int)+1) (by omega)
  have c:((2*(j:Int)+1:Int):Rat)=2*(j:Rat)+1:=by push_cast;rfl
  rw [c] at e
  have s:=OX ih (GN e d)
  simp only [aS,eX]
  rw [Rat.intCast_add]
  have e1:(vN:Rat)*(eX x j+pw x (2*j+1)/(2*(j:Rat)+1))=vN*eX x j+vN*pw x (2*j+1)/(2*(j:Rat)+1):=by rw [Rat.div_def,Rat.div_def];grind
  have e2:(3:Rat)*((j+1:Nat):Rat)=3*j+(1+2):=by push_cast;grind
  rw [e1,e2]
  exact s
theorem RO {x y:Rat} (hy:0<=y) (h:y<=x) (hx:x<=1/3):0<=I9 x-I9 y/\I9 x-I9 y<=9/8*(x-y):=by
 have x0:0<=x:=by grind
 have l:=WP hy h 64
 have u:=IC hy h 64
 have g:=a1c x0 hy (by grind) (by grind) 64
 have xy0:=Rat.mul_nonneg x0 hy
 have xy9:x*y<=1/9:=by have a:=Rat.mul_nonneg x0 (show 0<=1/3-y by grind);grind
 have p:=Rat.le_trans (xT xy0 xy9 64) a1e
 have e:(1:Rat)/2^200<=1:=by decide+kernel
 have ux:8/9<=1-x*x:=by have:=Rat.mul_nonneg (show 0<=1/3-x by grind) (show 0<=1/3+x by grind);grind
 have uy:8/9<=1-y*y:=by have:=Rat.mul_nonneg (show 0<=1/3-y by grind) (show 0<=1/3+y by grind);grind
 change 0<=eX x 64-eX y 64/\eX x 64-eX y 64<=_
 generalize eX x 64-eX y 64=A at*
 generalize pw (x*y) 64=P at*
 generalize gS x y 64=G at*
 constructor
 ·rcases l with l|l
  ·have:=Rat.mul_nonneg (show 0<=x-y by grind) (show 0<=1-P by grind)
   exact b8 (show 0<1-x*y by grind) (by grind)
  ·exfalso;grind
 ·have g9:G<=9/8:=by
   generalize 1-x*x=a at*
   generalize 1-y*y=b at*
   have q:=Rat.mul_pos (show 0<a by grind) (show 0<b by grind)
   have m1:=Rat.mul_nonneg (show 0<=a-8/9 by grind) (show 0<=b by grind)
   have m2:=Rat.mul_nonneg (show 0<=b-8/9 by grind) (show 0<=a by grind)
   have:=b8 q (show 0<=(a*b)*(9/8-G) by grind)
   grind
  have:=Rat.mul_nonneg (show 0<=x-y by grind) (show 0<=9/8-G by grind)
  grind
theorem XM {x y e:Rat} (x0:0<=x) (x1:x<=1/3) (y0:0<=y) (y1:y<=1/3) (h:f9 x y e):f9 (I9 x) (I9 y) (9/8*e):=by
 unfold f9 at*
 rcases Rat.le_total (a:=x) (b:=y) with g|g
 ·have a:=RO x0 g y1;constructor<;>grind
 ·have a:=RO y0 g x1;constructor<;>grind
theorem a1g (z:Int) (x:Rat) (z0:0<=z) (x0:0<=x) (x1:x<=1/3-2/1000000) (h:f9 z (vN*x) 2):f9 (aS z 64) (vN*I9 x) 195:=by
 have v0:=jZ
 have V0:(0:Rat)<vN:=by grind
 obtain ⟨y,hy⟩:∃y:Rat,y=(z:Rat)/vN:=⟨_,rfl⟩
 have e:(z:Rat)=vN*y:=by rw [hy,Rat.mul_comm];exact (Rat.div_mul_cancel (by grind)).symm
 have z0':=v6 z0
 have y0:0<=y:=b8 V0 (by rw [<-e];exact_mod_cast z0')
 obtain ⟨i,hi⟩:∃i:Rat,i=2/vN:=⟨_,rfl⟩
 have ie:i*vN=2:=by rw [hi];exact Rat.div_mul_cancel (by grind)
 have i1:i<=2/1000000:=by
  have i0:=b8 V0 (show 0<=(vN:Rat)*i by grind)
  have:=Rat.mul_nonneg i0 (show 0<=(vN:Rat)-1000000 by grind)
  grind
 rw [e] at h
 unfold f9 at h
 have n1:f9 y x i:=by
  unfold f9
  constructor
  ·have:=b8 V0 (show 0<=(vN:Rat)*(y-(x-i)) by grind);grind
  ·have:=b8 V0 (show 0<=(vN:Rat)*(x+i-y) by grind);grind
 have y1:y<=1/3:=by unfold f9 at n1;grind
 have a:=a0Q z y z0 e y1 64
 have b:=XM y0 y1 x0 (by grind) n1
 change f9 _ (vN*I9 y) _ at a
 unfold f9 at*
 generalize I9 y=A at*
 generalize I9 x=B at*
 generalize (vN:Rat)=V at*
 have m1:=Rat.mul_nonneg (Rat.le_of_lt V0) (show 0<=A-(B-9/8*i) by grind)
 have m2:=Rat.mul_nonneg (Rat.le_of_lt V0) (show 0<=B+9/8*i-A by grind)
 push_cast at a
 constructor<;>grind
theorem IE (a b:Int) (r:Rat) (b0:vN<=b) (a0:0<=a) (R:Rat) (hb:f9 b (vN*R) 1) (ha:f9 a (vN*(r*R)) 1) (r0:0<=r) (r1:r<=1/3) (R1:3/2<=R):0<=a*vN/b/\f9 (a*vN/b:Int) (vN*r) 2:=by
 have v1:=aG
 have v0:=jZ
 have V0:(0:Rat)<vN:=by grind
 have bI:0<b:=by omega
 have d:=R6 (a*vN) b bI
 have z0:0<=a*vN/b:=Int.ediv_nonneg (Int.mul_nonneg a0 (by omega)) (by omega)
 refine ⟨z0,?_⟩
 have bp:(0:Rat)<b:=by have:=Rat.intCast_lt_intCast.2 bI;exact_mod_cast this
 rw [Rat.intCast_mul] at d
 generalize ((a*vN/b:Int):Rat)=z at*
 generalize (a:Rat)=A at*
 generalize (b:Rat)=B at*
 generalize (vN:Rat)=V at*
 unfold f9 at*
 have m1:=Rat.mul_nonneg r0 (show 0<=B-(V*R-1) by grind)
 have m2:=Rat.mul_nonneg r0 (show 0<=V*R+1-B by grind)
 have k1: -(4/3)<=A-r*B:=by grind
 have k2:A-r*B<=4/3:=by grind
 have n1:=Rat.mul_nonneg (Rat.le_of_lt V0) (show 0<=A-r*B+4/3 by grind)
 have n2:=Rat.mul_nonneg (Rat.le_of_lt V0) (show 0<=4/3-(A-r*B) by grind)
 have n3:=Rat.mul_nonneg (Rat.le_of_lt V0) (show 0<=R-3/2 by grind)
 constructor
 ·have:=b8 bp (show 0<=B*(z-(V*r-2)) by grind);grind
 ·have:=b8 bp (show 0<=B*(V*r+2-z) by grind);grind
def sS (v:Int):Int:=if v<vN then -aS ((vN-v)*vN/(v+vN)) 64 else aS ((v-vN)*vN/(v+vN)) 64
theorem YF (v:Int) (r:Rat) (h0:3/4<=r) (h1:r<=3/2) (hv:f9 v (vN*r) 1) (hs:v<vN↔r<1) (v0:0<=v):f9 (sS v) (vN*I9 (zf r)) 195:=by
 have p:=jZ
 have e:=vP (v:=r) (by grind)
 have c:=TC h0 h1
 unfold sS
 by_cases h:v<vN
 ·rw [if_pos h]
  have r1:=hs.1 h
  have q:=IE (vN-v) (v+vN) (-zf r) (by omega) (by omega) (r+1) (by rw [Rat.intCast_add];unfold f9 at*;constructor<;>grind) (by rw [show -zf r*(r+1)=1-r by grind,Rat.intCast_sub];unfold f9 at*;constructor<;>grind)
   (by have:=b8 (show 0<r+1 by grind) (show 0<=(r+1)* -zf r by grind);exact this) (by grind) (by grind)
  have z7: -zf r<=1/7:=by have:=b8 (show 0<r+1 by grind) (show 0<=(r+1)*(1/7+zf r) by grind);grind
  have a:=a1g _ (-zf r) q.1 (by have:=b8 (show 0<r+1 by grind) (show 0<=(r+1)* -zf r by grind);exact this) (by have:(1:Rat)/7<=1/3-2/1000000:=(by decide+kernel);grind) q.2
  have o:I9 (-zf r)= -I9 (zf r):=qX _ 64
  rw [o] at a
  rw [Rat.intCast_neg]
  unfold f9 at*
  constructor<;>grind
 ·rw [if_neg h]
  have r1:1<=r:=by
   apply Classical.byContradiction
   intro k
   exact h (hs.2 (by grind))
  have q:=IE (v-vN) (v+vN) (zf r) (by omega) (by omega) (r+1) (by rw [Rat.intCast_add];unfold f9 at*;constructor<;>grind) (by rw [e,Rat.intCast_sub];unfold f9 at*;constructor<;>grind)
   (by have:=b8 (show 0<r+1 by grind) (show 0<=(r+1)*zf r by grind);exact this) (by grind) (by grind)
  have z5:zf r<=1/5:=by have:=b8 (show 0<r+1 by grind) (show 0<=(r+1)*(1/5-zf r) by grind);grind
  exact a1g _ (zf r) q.1 (by have:=b8 (show 0<r+1 by grind) (show 0<=(r+1)*zf r by grind);exact this) (by have:(1:Rat)/5<=1/3-2/1000000:=(by decide+kernel);grind) q.2
def lN:Int:=3*2^191
theorem PC:lN*2=vN*3:=by decide+kernel
def hv:Nat->Int->Nat->Int×Nat
 |0,u,k=>(u,k)
 |f+1,u,k=>if u<lN then (u,k) else hv f (u/2) (k+1)
theorem IL (f:Nat) (u:Int) (k:Nat) (h:u<lN*2^f):∃m,m<=f/\hv f u k=(u/2^m,k+m)/\u<lN*2^m/\(m=0\/lN*2^m<=2*u):=by
 induction f generalizing u k with
 |zero=>exact ⟨0,by omega,by simp [hv],by simpa using h,.inl rfl⟩
 |succ f ih=>
  by_cases g:u<lN
  ·exact ⟨0,by omega,by simp [hv,g],by simpa using g,.inl rfl⟩
  ·have e:lN*2^(f+1)=2*(lN*2^f):=by rw [Int.pow_succ];grind
   rw [e] at h
   obtain ⟨m,h1,h2,h3,h4⟩:=ih (u/2) (k+1) (by omega)
   have e2:lN*2^(m+1)=2*(lN*2^m):=by rw [Int.pow_succ];grind
   refine ⟨m+1,by omega,?_,by rw [e2];omega,.inr ?_⟩
   ·unfold hv
    rw [if_neg g,h2,Int.pow_succ,Int.mul_comm (2^m) 2,Int.ediv_ediv_of_nonneg (by omega),show k+1+m=k+(m+1) by omega]
   ·rw [e2]
    rcases h4 with h4|h4
    ·subst h4;simp;omega
    ·omega
def hl (u:Int):Int:=aS (vN/3) 64*((hv 10 u 0).2:Int)+sS (hv 10 u 0).1
def lR (k:Nat) (U:Rat):Rat:=k*I9 (1/3)+I9 (zf (U/2^k))
theorem LT:f9 (aS (vN/3) 64) (vN*I9 (1/3)) 200:=by
 unfold f9
 decide+kernel
theorem IN (u:Int) (h0:vN<=u) (h1:u<vN*512):∃k:Nat,k<=10/\3/4<=((u:Rat)/vN)/2^k/\((u:Rat)/vN)/2^k<3/2/\f9 (hl u) (vN*lR k ((u:Rat)/vN)) 2200:=by
 obtain ⟨k,k1,k2,k3,k4⟩:=IL 10 u 0 (by have:=PC;have:=aG;omega)
 have v0:=jZ
 have V0:(0:Rat)<vN:=by grind
 obtain ⟨U,hU⟩:∃U:Rat,U=(u:Rat)/vN:=⟨_,rfl⟩
 have uU:U*vN=u:=by rw [hU];exact Rat.div_mul_cancel (by grind)
 obtain ⟨P,hP⟩:∃P:Rat,P=2^k:=⟨_,rfl⟩
 have P1:1<=P:=by
  rw [hP]
  clear k1 k2 k3 k4 hP
  induction k with
  |zero=>rw [Rat.pow_zero];exact Rat.le_refl
  |succ k ih=>rw [Rat.pow_succ];grind
 have Pc:((2^k:Int):Rat)=P:=by rw [hP];push_cast;rfl
 obtain ⟨r,hr⟩:∃r:Rat,r=U/P:=⟨_,rfl⟩
 have rP:r*P=U:=by rw [hr];exact Rat.div_mul_cancel (by grind)
 rw [<-hU]
 refine ⟨k,k1,?_⟩
 rw [<-hP,<-hr]
 have pI:(0:Int)<2^k:=Int.pow_pos (by decide)
 have lr:(lN:Rat)=3/2*vN:=by decide+kernel
 have a3:=Rat.intCast_lt_intCast.2 k3
 rw [Rat.intCast_mul,Pc,<-uU,lr,<-rP] at a3
 have r1:r<3/2:=by
  have VP:=Rat.mul_pos V0 (show 0<P by grind)
  apply Classical.byContradiction
  intro g
  have:=Rat.mul_nonneg (Rat.le_of_lt VP) (show 0<=r-3/2 by grind)
  grind
 have r0:3/4<=r:=by
  have VP:=Rat.mul_pos V0 (show 0<P by grind)
  rcases k4 with k4|k4
  ·subst k4
   have:P=1:=by rw [hP,Rat.pow_zero]
   have b:=v6 h0
   rw [<-uU] at b
   have:=b8 V0 (show 0<=(vN:Rat)*(U-1) by grind)
   grind
  ·have b:=v6 k4
   rw [Rat.intCast_mul,Rat.intCast_mul,Pc,<-uU,lr,<-rP] at b
   have:=b8 VP (show 0<=(vN*P)*(r-3/4) by push_cast at b;grind)
   grind
 refine ⟨r0,r1,?_⟩
 have d:=R6 u (2^k) pI
 rw [Pc,<-uU,<-rP] at d
 have vnear:f9 ((u/2^k:Int):Rat) (vN*r) 1:=by
  have P0:0<P:=by grind
  generalize ((u/2^k:Int):Rat)=q at*
  unfold f9
  constructor
  ·have:=b8 P0 (show 0<=P*(q-(vN*r-1)) by grind);grind
  ·have:=b8 P0 (show 0<=P*(vN*r+1-q) by grind);grind
 have aZ:u/2^k<vN↔r<1:=by
  rw [Int.ediv_lt_iff_lt_mul pI]
  constructor
  ·intro h
   have b:=Rat.intCast_lt_intCast.2 h
   rw [Rat.intCast_mul,Pc,<-uU,<-rP] at b
   apply Classical.byContradiction
   intro g
   have:=Rat.mul_nonneg (Rat.le_of_lt (Rat.mul_pos V0 (show 0<P by grind))) (show 0<=r-1 by grind)
   grind
  ·intro h
   apply Rat.intCast_lt_intCast.1
   rw [Rat.intCast_mul,Pc,<-uU,<-rP]
   have:=Rat.mul_pos (Rat.mul_pos V0 (show 0<P by grind)) (show 0<1-r by grind)
   grind
 have s:=YF (u/2^k) r r0 (by grind) vnear aZ (Int.ediv_nonneg (by have:=aG;omega) (by omega))
 have t:=LT
 unfold hl lR
 rw [k2,<-hP,<-hr,Nat.zero_add,Rat.intCast_add,Rat.intCast_mul]
 have kc:(((k:Nat):Int):Rat)=(k:Rat):=by push_cast;rfl
 rw [kc]
 have kr0:(0:Rat)<=k:=by exact_mod_cast Nat.zero_le k
 have kr1:(k:Rat)<=10:=by
   have:((k:Nat):Rat)<=((10:Nat):Rat):=Rat.natCast_le_natCast.2 k1
   exact this
 clear d vnear aZ hr rP r0 r1 uU hU
 unfold f9 at*
 generalize (aS (vN/3) 64:Rat)=A at*
 generalize (sS (u/2^k):Rat)=B at*
 generalize I9 (1/3)=C at*
 generalize I9 (zf r)=D at*
 generalize (k:Rat)=K at*
 generalize (vN:Rat)=V at*
 have m1:=Rat.mul_nonneg kr0 (show 0<=A-(V*C-200) by grind)
 have m2:=Rat.mul_nonneg kr0 (show 0<=V*C+200-A by grind)
 constructor<;>grind
theorem mJ {a b:Nat} (h:a<=b):(2:Rat)^a<=2^b:=by
 obtain ⟨c,rfl⟩:∃c,b=a+c:=⟨b-a,by omega⟩
 clear h
 induction c with
 |zero=>exact Rat.le_refl
 |succ c ih=>
  rw [<-Nat.add_assoc,Rat.pow_succ]
  have:(0:Rat)<=2^(a+c):=Rat.pow_nonneg (by decide)
  grind
theorem AC (a:Nat):(1:Rat)<=2^a:=by have:=mJ (Nat.zero_le a);rw [Rat.pow_zero] at this;exact this
theorem iB {d v u e c:Rat} (c0:0<c) (h:cG d v u e):cG d (v*c) (u*c) e:=by
 unfold cG at*
 have m1:=Rat.mul_le_mul_of_nonneg_right h.1 (Rat.le_of_lt c0)
 have m2:=Rat.mul_le_mul_of_nonneg_right h.2 (Rat.le_of_lt c0)
 constructor<;>grind
theorem EP {d v u e f:Rat} (h:cG d v u e) (k:e<=f) (hv:v<=u):cG d v u f:=by
 unfold cG at*
 have:=Rat.mul_nonneg (show 0<=u-v by grind) (show 0<=f-e by grind)
 constructor<;>grind
theorem XO (U U':Rat) (k k':Nat) (h1:3/4<=U/2^k) (h2:U/2^k<3/2) (h3:3/4<=U'/2^k') (h4:U'/2^k'<3/2) (hU:U<=U') (hs:U'-U<=U*(1/2^18)):
  ∃d,f9 (lR k' U'-lR k U) d (1/2^150)/\cG d U U' (1/2^34):=by
 have p:=AC k
 have p':=AC k'
 obtain ⟨v,hv⟩:∃v,v=U/2^k:=⟨_,rfl⟩
 obtain ⟨u,hu⟩:∃u,u=U'/2^k':=⟨_,rfl⟩
 have ev:v*2^k=U:=by rw [hv];exact Rat.div_mul_cancel (by grind)
 have eu:u*2^k'=U':=by rw [hu];exact Rat.div_mul_cancel (by grind)
 have e35:(1:Rat)/2^35<=1/2^34/\(1:Rat)/2^18<=1/100:=by decide+kernel
 unfold lR
 rw [<-hv] at h1 h2 ⊢
 rw [<-hu] at h3 h4 ⊢
 clear hv hu
 have kk:k'=k\/k'=k+1:=by
  rcases Nat.lt_trichotomy k' k with g|g|g
  ·exfalso
   have m:=mJ (show k'+1<=k by omega)
   rw [Rat.pow_succ] at m
   have n1:=Rat.mul_pos (show 0<3/2-u by grind) (show (0:Rat)<2^k' by grind)
   have n2:=Rat.mul_nonneg (show 0<=v-3/4 by grind) (show (0:Rat)<=2^k by grind)
   grind
  ·exact .inl g
  ·by_cases g2:k'=k+1
   ·exact .inr g2
   ·exfalso
    have m:=mJ (show k+1+1<=k' by omega)
    rw [Rat.pow_succ,Rat.pow_succ] at m
    have n1:=Rat.mul_pos (show 0<3/2-v by grind) (show (0:Rat)<2^k by grind)
    have n2:=Rat.mul_nonneg (show 0<=u-3/4 by grind) (show (0:Rat)<=2^k' by grind)
    have n3:=Rat.mul_nonneg (show 0<=U by have:=Rat.mul_nonneg (show 0<=v by grind) (show (0:Rat)<=2^k by grind);grind) (show 0<=1/100-(1:Rat)/2^18 by grind)
    generalize (1:Rat)/2^18=c at*
    grind
 have c18:(0:Rat)<=1/2^18:=by decide+kernel
 rcases kk with kk|kk
 ·subst kk
  have le:v<=u:=by
   have:=b8 (show (0:Rat)<2^k' by grind) (show 0<=(2:Rat)^k'*(u-v) by grind)
   grind
  have sm:u-v<=v*(1/2^18):=by
   have:=b8 (show (0:Rat)<2^k' by grind) (show 0<=(2:Rat)^k'*(v*(1/2^18)-(u-v)) by grind)
   grind
  refine ⟨I9 (zf u)-I9 (zf v),?_,?_⟩
  ·have:(0:Rat)<=1/2^150:=by decide+kernel
   unfold f9;constructor<;>grind
  ·have g:=iB (c:=2^k') (by grind) (wI h1 le (Rat.le_of_lt h4) sm)
   rw [ev,eu] at g
   exact EP g e35.1 hU
 ·subst kk
  rw [Rat.pow_succ] at eu
  obtain ⟨P,hP⟩:∃P:Rat,P=2^k:=⟨_,rfl⟩
  rw [<-hP] at p ev eu
  clear hP
  have w1:U<=3/2*P:=by have:=Rat.mul_nonneg (show 0<=3/2-v by grind) (show 0<=P by grind);grind
  have w2:3/2*P<=U':=by have:=Rat.mul_nonneg (show 0<=u-3/4 by grind) (show 0<=P by grind);grind
  have s1:3/2-v<=v*(1/2^18):=by
   have:=b8 (show 0<P by grind) (show 0<=P*(v*(1/2^18)-(3/2-v)) by grind)
   grind
  have s2:u-3/4<=3/4*(1/2^18):=by
   have a:=Rat.mul_nonneg c18 (show 0<=3/2*P-U by grind)
   have:=b8 (show 0<P by grind) (show 0<=P*(3/4*(1/2^18)-(u-3/4)) by grind)
   grind
  have g1:=iB (c:=P) (by grind) (wI h1 (show v<=3/2 by grind) Rat.le_refl s1)
  have g2:=iB (c:=P*2) (by grind) (wI (show 3/4<=3/4 by exact Rat.le_refl) h3 (Rat.le_of_lt h4) s2)
  rw [eu,show (3/4:Rat)*(P*2)=3/2*P by grind] at g2
  rw [ev] at g1
  have z1:zf (3/2)=1/5:=by decide+kernel
  have z2:zf (3/4)= -(1/7):=by decide+kernel
  have o:I9 (-(1/7))= -I9 (1/7):=qX _ 64
  rw [z1] at g1
  rw [z2,o] at g2
  have br:=WI
  refine ⟨_,?_,MU (by have:=Rat.mul_pos (show 0<v by grind) (show 0<P by grind);grind) w1 w2 hs g1 g2⟩
  have kc:((k+1:Nat):Rat)=(k:Rat)+1:=by push_cast;rfl
  rw [kc]
  unfold f9
  constructor<;>grind
def T7 (t:Nat->Int):Nat->Nat->Int
 |0,_=>0
 |k+1,m=>t m-T7 t k (m+1)
theorem pL (t:Nat->Int) (k m:Nat):(T7 t k m:Rat)=dM (fun j=>(t j:Rat)) k m:=by
 induction k generalizing m with
 |zero=>rfl
 |succ k ih=>simp only [T7,dM];rw [Rat.intCast_sub,ih]
def sI (n:Nat):Int:=T7 (N4 (O8 n) (jQ n) 1) 200 0
theorem JV (n:Nat) (hn:n<=4800002):f9 (sI n) (vN*fR.s' (uW*(n:Int))) (2^128):=by
 have a:=HU n 187 hn (by omega)
 have g:=(cC n (by omega)).2
 unfold sI
 rw [pL]
 have c:(vN:Rat)=2^64*2^128:=by decide+kernel
 rw [c]
 have t:(0:Rat)<=2^64:=by decide+kernel
 have e:(2:Rat)^127+2^64*2^55<=2^128:=by decide+kernel
 change f9 (dM (fun j=>(N4 (O8 n) (jQ n) 1 j:Rat)) 200 0) _ _ at a
 unfold f9 at*
 generalize dM (fun j=>(N4 (O8 n) (jQ n) 1 j:Rat)) 200 0=A at*
 generalize fR.s' (uW*(n:Int))=S at*
 have m1:=Rat.mul_le_mul_of_nonneg_left g.1 t
 have m2:=Rat.mul_le_mul_of_nonneg_left g.2 t
 have i:(2:Rat)^64*2^128*S=2^64*(2^128*S):=by grind
 rw [i]
 generalize (2:Rat)^128*S=T at*
 constructor<;>grind
theorem a3b:sN 4800001*100000<=98481*zN:=by decide+kernel
theorem a3B:fR.s' (uW*((4800001:Nat):Int))<=98482/100000:=by
 have p:=yQ 4800001 (by omega)
 have g:=(cC 4800001 (by omega)).2
 have n:=a3b
 have z:=rD
 have i:iS ((4800001:Nat):Int)*100000<=98481*2^128+100000*2^62:=by
  apply Int.le_of_mul_le_mul_left _ z
  have e1:((4800001:Nat):Int)=4800001:=rfl
  rw [e1] at*
  generalize iS 4800001=I at*
  generalize sN 4800001=s at*
  generalize zN=Z at*
  have e2:Z*(I*100000)=100000*(Z*I):=by grind
  rw [e2]
  generalize Z*I=ZI at*
  omega
 have ir:=v6 i
 unfold f9 at g
 rw [Rat.intCast_mul] at ir
 have e:((98481*2^128+100000*2^62:Int):Rat)+100000*2^55<=98482*2^128:=by decide+kernel
 have t:(0:Rat)<2^128:=by decide+kernel
 generalize fR.s' (uW*((4800001:Nat):Int))=S at*
 generalize (iS ((4800001:Nat):Int):Rat)=I at*
 generalize ((98481*2^128+100000*2^62:Int):Rat)=R at*
 generalize (2:Rat)^55=Y at*
 generalize (2:Rat)^128=T at*
 have c:((100000:Int):Rat)=100000:=rfl
 rw [c] at ir
 have:=b8 t (show 0<=T*(98482-100000*S) by grind)
 grind
theorem iI (n:Nat) (hn:n<=4800001):0<=fR.s' (uW*(n:Int))/\fR.s' (uW*(n:Int))<=98482/100000/\1735/10000<=fR.c' (uW*(n:Int)):=by
 have uw:(uW:Int)=2^80:=rfl
 have z0:fR.s' 0=0:=by decide+kernel
 have a:=bO 0 (2^80*n) (by omega) (by unfold kQ;omega) (by unfold kQ;omega)
 have b:=bO (uW*(n:Int)) (2^80*(4800001-n)) (by rw [uw];unfold kQ;omega) (by rw [uw];unfold kQ;omega) (by unfold kQ;omega)
 rw [show (uW:Int)*(n:Int)+((2^80*(4800001-n):Nat):Int)=uW*((4800001:Nat):Int) by rw [uw];omega] at b
 rw [show (0:Int)+((2^80*n:Nat):Int)=uW*(n:Int) by rw [uw];omega,z0] at a
 have s:=a3B
 have c:=jM (uW*(n:Int)) (by rw [uw];unfold kQ;omega)
 have o:=fR.z_one (uW*(n:Int))
 generalize fR.s' (uW*(n:Int))=S at*
 generalize fR.c' (uW*(n:Int))=C at*
 have s1:S<=98482/100000:=by grind
 refine ⟨a,s1,?_⟩
 apply Classical.byContradiction
 intro g
 have m1:=Rat.mul_nonneg (show 0<=98482/100000-S by grind) (show 0<=98482/100000+S by grind)
 have m2:=Rat.mul_nonneg (show 0<=1735/10000-C by grind) (show 0<=1735/10000+C by grind)
 grind
def uI (n:Nat):Int:=(vN+sI n)*vN/(vN-sI n)
def uQ (n:Nat):Rat:=(uI n:Rat)/vN
def sQ (n:Nat):Rat:=fR.s' (uW*(n:Int))
def cQ (n:Nat):Rat:=fR.c' (uW*(n:Int))
theorem a2P (V s u S:Rat) (V1:2^192<=V) (S0:0<=S) (S1:S<=98482/100000) (hs:f9 s (V*S) (V/2^64)) (hu:u*(V-s)<=(V+s)*V/\(V+s)*V<=u*(V-s)+(V-s)) (U:Rat) (hU:U*V=u):
  0<V-s/\f9 (U*(1-S)) (1+S) (1/2^56):=by
 have V0:0<V:=by have:(0:Rat)<2^192:=(by decide+kernel);grind
 obtain ⟨t,ht⟩:∃t,t=s/V:=⟨_,rfl⟩
 have tv:t*V=s:=by rw [ht];exact Rat.div_mul_cancel (by grind)
 obtain ⟨f,hf⟩:∃f,f=1+t-U*(1-t):=⟨_,rfl⟩
 subst tv
 subst hU
 have e64:(1:Rat)/2^64=1/2^64:=rfl
 have n1:f9 t S (1/2^64):=by
  unfold f9 at*
  have e:V/2^64=V*(1/2^64):=by rw [Rat.div_def,Rat.div_def];grind
  rw [e] at hs
  constructor
  ·have:=b8 V0 (show 0<=V*(t-(S-1/2^64)) by grind);grind
  ·have:=b8 V0 (show 0<=V*(S+1/2^64-t) by grind);grind
 have c1:(1:Rat)/2^64<=1/1000000000000/\(0:Rat)<=1/2^64/\3*((1:Rat)/2^64)<=15/1000*(1/2^56):=by decide+kernel
 have i192:2<=V*(1/2^64):=by
  have a:(2:Rat)<=2^192*(1/2^64):=by decide+kernel
  have:=Rat.mul_nonneg (show 0<=V-2^192 by grind) c1.2.1
  grind
 clear hs ht e64
 unfold f9 at n1
 generalize (1:Rat)/2^64=e at*
 generalize (1:Rat)/2^56=E at*
 have t1:15/1000<=1-t:=by grind
 have p0:0<V-t*V:=by have:=Rat.mul_pos V0 (show 0<1-t by grind);grind
 refine ⟨p0,?_⟩
 have VV:=Rat.mul_pos V0 V0
 have i1:V*V*f=(V+t*V)*V-U*V*(V-t*V):=by rw [hf];grind
 have f0:0<=f:=b8 VV (by rw [i1];grind)
 have f1:V*f<=1-t:=by
  have:=b8 V0 (show 0<=V*((1-t)-V*f) by
   have:V*((1-t)-V*f)=V-t*V-V*V*f:=by grind
   rw [this,i1];grind)
  grind
 have f2:f<=e:=by
  have:=b8 V0 (show 0<=V*(e-f) by grind)
  grind
 have key:(U*(1-S)-(1+S))*(1-t)=2*(t-S)-f*(1-S):=by rw [hf];grind
 clear hf hu i1
 have g1:=Rat.mul_nonneg f0 S0
 have g2:=Rat.mul_nonneg f0 (show 0<=1-S by grind)
 have E0:0<=E:=by grind
 have h1:=Rat.mul_nonneg E0 (show 0<=1-t-15/1000 by grind)
 obtain ⟨X,hX⟩:∃X,U*(1-S)=1+S+X:=⟨U*(1-S)-(1+S),by grind⟩
 rw [hX] at key ⊢
 have key2:X*(1-t)=2*(t-S)-f*(1-S):=by grind
 clear key hX
 have q:0<1-t:=by grind
 have r1: -E<=X:=by
  have:=b8 q (show 0<=(1-t)*(X+E) by grind)
  grind
 have r2:X<=E:=by
  have:=b8 q (show 0<=(1-t)*(E-X) by grind)
  grind
 unfold f9
 constructor<;>grind
theorem XH (S S' U U' p:Rat) (S0:0<=S) (S1:S<=98482/100000) (T0:0<=S') (T1:S'<=98482/100000) (hU:f9 (U*(1-S)) (1+S) (1/2^56)) (hU':f9 (U'*(1-S')) (1+S') (1/2^56))
  (p0:0<=p) (p1:p<=1) (hp:p*(1-S*S')=S'-S):1/2<=U/\1/2<=U'/\f9 (U'-U) (p*(U'+U)) (1/2^54*(U'+U)):=by
 have c:(0:Rat)<=1/2^56/\(1:Rat)/2^54=4*(1/2^56)/\(1:Rat)/2^56<=1/1000000:=by decide+kernel
 rw [c.2.1]
 have c0:=c.1
 have c1:=c.2.2
 clear c
 generalize (1:Rat)/2^56=e at*
 obtain ⟨E,hE⟩:∃E,E=(1+S)/(1-S):=⟨_,rfl⟩
 obtain ⟨F,hF⟩:∃F,F=(1+S')/(1-S'):=⟨_,rfl⟩
 have eE:E*(1-S)=1+S:=by rw [hE];exact Rat.div_mul_cancel (by grind)
 have eF:F*(1-S')=1+S':=by rw [hF];exact Rat.div_mul_cancel (by grind)
 clear hE hF
 have a:0<1-S:=by grind
 have b:0<1-S':=by grind
 have E1:1<=E:=by have:=b8 a (show 0<=(1-S)*(E-1) by grind);grind
 have F1:1<=F:=by have:=b8 b (show 0<=(1-S')*(F-1) by grind);grind
 have key:p*(F+E)=F-E:=by
  have ab:=Rat.mul_pos a b
  have z:(p*(F+E)-(F-E))*((1-S)*(1-S'))=0:=by
   have:(p*(F+E)-(F-E))*((1-S)*(1-S'))=p*(F*(1-S')*(1-S)+E*(1-S)*(1-S'))-(F*(1-S')*(1-S)-E*(1-S)*(1-S')):=by grind
   rw [this,eE,eF]
   have:p*((1+S')*(1-S)+(1+S)*(1-S'))-((1+S')*(1-S)-(1+S)*(1-S'))=2*(p*(1-S*S'))-2*(S'-S):=by grind
   rw [this,hp];grind
  have:=JB ab z
  grind
 unfold f9 at*
 have d1: -(e*E)<=U-E:=by
  have:=b8 a (show 0<=(1-S)*(U-E+e*E) by
   have:(1-S)*(U-E+e*E)=U*(1-S)-E*(1-S)+e*(E*(1-S)):=by grind
   rw [this,eE];have:=Rat.mul_nonneg c0 S0;grind)
  grind
 have d2:U-E<=e*E:=by
  have:=b8 a (show 0<=(1-S)*(e*E-(U-E)) by
   have:(1-S)*(e*E-(U-E))=e*(E*(1-S))+E*(1-S)-U*(1-S):=by grind
   rw [this,eE];have:=Rat.mul_nonneg c0 S0;grind)
  grind
 have d3: -(e*F)<=U'-F:=by
  have:=b8 b (show 0<=(1-S')*(U'-F+e*F) by
   have:(1-S')*(U'-F+e*F)=U'*(1-S')-F*(1-S')+e*(F*(1-S')):=by grind
   rw [this,eF];have:=Rat.mul_nonneg c0 T0;grind)
  grind
 have d4:U'-F<=e*F:=by
  have:=b8 b (show 0<=(1-S')*(e*F-(U'-F)) by
   have:(1-S')*(e*F-(U'-F))=e*(F*(1-S'))+F*(1-S')-U'*(1-S'):=by grind
   rw [this,eF];have:=Rat.mul_nonneg c0 T0;grind)
  grind
 clear eE eF hU hU' hp
 have eE0:=Rat.mul_nonneg c0 (show 0<=E by grind)
 have eF0:=Rat.mul_nonneg c0 (show 0<=F by grind)
 have m1:=Rat.mul_nonneg (show 0<=E by grind) (show 0<=1/1000000-e by grind)
 have m2:=Rat.mul_nonneg (show 0<=F by grind) (show 0<=1/1000000-e by grind)
 have q1:=A6 (a:=p) (b:=U-E) (e:=1) (f:=e*E) (by grind) p1 d1 d2
 have q2:=A6 (a:=p) (b:=U'-F) (e:=1) (f:=e*F) (by grind) p1 d3 d4
 have n1:=Rat.mul_nonneg c0 (show 0<=U-E/2 by grind)
 have n2:=Rat.mul_nonneg c0 (show 0<=U'-F/2 by grind)
 refine ⟨by grind,by grind,?_,?_⟩<;>grind
def wR:Rat:=fR.s' (uW:Int)
theorem a04:29088/100000000000<=wR/\wR<=29089/100000000000:=by
 have u:=nH.2
 have z:=(fR.z_nat uW).2
 unfold wR
 rw [z]
 have a:(29088/100000000000:Rat)*2^128<=98984128154162191825446416122235-4/\(98984128154162191825446416122235+4:Rat)<=29089/100000000000*2^128:=by decide+kernel
 have t:(0:Rat)<2^128:=by decide+kernel
 unfold f9 at u
 generalize (fR.C uW).2=x at*
 generalize (2:Rat)^128=T at*
 constructor
 ·have:=b8 t (show 0<=T*(x-29088/100000000000) by grind);grind
 ·have:=b8 t (show 0<=T*(29089/100000000000-x) by grind);grind
def vQ (n:Nat):Rat:=jK (sQ n) (sQ (n+1))
theorem vO (n:Nat) (hn:n<=4800000):vQ n*(1-sQ n*sQ (n+1))=sQ (n+1)-sQ n/\0<=vQ n/\wR<=cQ n*vQ n/\cQ (n+1)*vQ n<=wR:=by
 have a:=iI n (by omega)
 have b:=iI (n+1) (by omega)
 have le:fR.s' (uW*(n:Int))<=fR.s' (uW*((n+1:Nat):Int)):=by
  have uw:(uW:Int)=2^80:=rfl
  obtain ⟨u,hu⟩:∃u:Nat,u=2^80:=⟨_,rfl⟩
  have:=bO (uW*(n:Int)) u (by rw [uw];unfold kQ;omega) (by rw [uw];unfold kQ;omega) (by unfold kQ;omega)
  rw [show (uW:Int)*(n:Int)+(u:Int)=uW*((n+1:Nat):Int) by rw [uw];omega] at this
  exact this
 have P:∀S S':Rat,0<=S->S<=98482/100000->0<=S'->S'<=98482/100000->S<=S'->0<1-S*S'/\jK S S'*(1-S*S')=S'-S/\0<=jK S S':=fun S S' h1 h2 h3 h4 h5=>by
  have one:=U9 (s:=S) (t:=S') (by grind) (by grind) (by grind) (by grind)
  exact ⟨one,nF one,Z7 (by grind) h5 (by grind)⟩
 obtain ⟨one,e,p0⟩:=P _ _ a.1 a.2.1 b.1 b.2.1 le
 have z:=fR.z_sum (uW*(n:Int)) uW
 have o:=fR.z_one (uW*(n:Int))
 have o2:=fR.z_one uW
 have ub:=(fR.z_bd (uW:Int)).1
 rw [show (uW:Int)*(n:Int)+uW=uW*((n+1:Nat):Int) by push_cast;rw [Int.mul_add];omega] at z
 unfold vQ sQ cQ wR
 refine ⟨e,p0,?_⟩
 generalize jK (fR.s' (uW*(n:Int))) (fR.s' (uW*((n+1:Nat):Int)))=p at*
 generalize fR.s' (uW*(n:Int))=S at*
 generalize fR.c' (uW*(n:Int))=C at*
 generalize fR.s' (uW*((n+1:Nat):Int))=S' at*
 generalize fR.c' (uW*((n+1:Nat):Int))=C' at*
 generalize fR.s' (uW:Int)=s at*
 generalize fR.c' (uW:Int)=c at*
 have cn:0<=1-c:=by grind
 constructor
 ·have i:C*(S'-S)-s*(1-S*S')=(1-c)*(S*C'):=by grind
  have k:=Rat.mul_nonneg cn (Rat.mul_nonneg a.1 (show 0<=C' by grind))
  have:=b8 one (show 0<=(1-S*S')*(C*p-s) by
   have:(1-S*S')*(C*p-s)=C*(p*(1-S*S'))-s*(1-S*S'):=by grind
   rw [this,e,i];exact k)
  grind
 ·have i:C'*(S'-S)-s*(1-S*S')= -((1-c)*(S'*C)):=by grind
  have k:=Rat.mul_nonneg cn (Rat.mul_nonneg b.1 (show 0<=C by grind))
  have:=b8 one (show 0<=(1-S*S')*(s-C'*p) by
   have:(1-S*S')*(s-C'*p)=s*(1-S*S')-C'*(p*(1-S*S')):=by grind
   rw [this,e];grind)
  grind
theorem a0u:sI 0=0:=by decide+kernel
theorem a1f (n:Nat) (hn:n<=4800001):0<=sI n/\sI n<vN:=by
 have a:=iI n hn
 have s:=JV n (by omega)
 have big:(2:Rat)^128<=vN*(1/10000000000):=by decide+kernel
 have v0:=jZ
 constructor
 ·rcases Nat.eq_zero_or_pos n with h|h
  ·subst h;rw [a0u];exact Int.le_refl _
  ·have uw:(uW:Int)=2^80:=rfl
   have b:=bO (uW*1) (2^80*(n-1)) (by rw [uw];unfold kQ;omega) (by rw [uw];unfold kQ;omega) (by unfold kQ;omega)
   rw [show (uW:Int)*1+((2^80*(n-1):Nat):Int)=uW*(n:Int) by rw [uw];omega,Int.mul_one] at b
   have su:=a04.1
   unfold wR at su
   apply R7
   generalize fR.s' (uW*(n:Int))=S at*
   generalize fR.s' (uW:Int)=t at*
   have:=Rat.mul_nonneg (show (0:Rat)<=vN by grind) (show 0<=S-1/10000000000 by grind)
   unfold f9 at s
   have z:((0:Int):Rat)=0:=rfl
   rw [z]
   grind
 ·apply Rat.intCast_lt_intCast.1
  generalize fR.s' (uW*(n:Int))=S at*
  have:=Rat.mul_nonneg (show (0:Rat)<=vN by grind) (show 0<=98482/100000-S by grind)
  unfold f9 at s
  grind
theorem uH (n:Nat) (hn:n<=4800001):vN<=uI n/\uI n<vN*512/\f9 (uQ n*(1-sQ n)) (1+sQ n) (1/2^56)/\uQ n*vN=uI n:=by
 have a:=iI n hn
 have s:=JV n (by omega)
 have b:=a1f n hn
 have v1:=aG
 have v0:=jZ
 have d:=R6 ((vN+sI n)*vN) (vN-sI n) (by omega)
 rw [Rat.intCast_mul,Rat.intCast_add,Rat.intCast_sub] at d
 change (uI n:Rat)*_<=_/\_<=(uI n:Rat)*_+_ at d
 have uv:uQ n*vN=uI n:=Rat.div_mul_cancel (by grind)
 have e128:(2:Rat)^128=vN/2^64:=by decide+kernel
 rw [e128] at s
 have al:=a2P vN (sI n) (uI n) (sQ n) (by decide+kernel) a.1 a.2.1 s d (uQ n) uv
 have lo:vN<=uI n:=by
  unfold uI
  apply Int.le_ediv_of_mul_le (by omega)
  rw [Int.mul_comm (vN+sI n)]
  exact Int.mul_le_mul_of_nonneg_left (by omega) (by omega)
 refine ⟨lo,?_,al.2,uv⟩
 apply Rat.intCast_lt_intCast.1
 rw [Rat.intCast_mul,<-uv]
 have x:=al.2
 have c:(1:Rat)/2^56<=1:=by decide+kernel
 change 0<=sQ n/\sQ n<=_/\_ at a
 unfold f9 at x
 generalize sQ n=S at*
 generalize uQ n=U at*
 have U3:U<512:=by
  apply Classical.byContradiction
  intro g
  have:=Rat.mul_nonneg (show 0<=U-512 by grind) (show 0<=1-S by grind)
  grind
 have:=Rat.mul_pos (show (0:Rat)<vN by grind) (show 0<512-U by grind)
 have c512:((512:Int):Rat)=512:=rfl
 rw [c512]
 grind
theorem XJ (V p U U' d h:Rat) (V1:2^192<=V) (p0:29088/100000000000<=p) (hU:1/2<=U) (hU':1/2<=U') (hv:f9 (U'-U) (p*(U'+U)) (1/2^54*(U'+U)))
  (hd:cG d U U' (1/2^34)) (D:Rat) (hD:f9 D d (1/2^150)) (hh:f9 h (V*D) 4400):V*p*(1-1/2^31)<=h/\h<=V*p*(1+1/2^31):=by
 have c:(0:Rat)<=1/2^34/\(1:Rat)/2^31=8*(1/2^34)/\(1:Rat)/2^54<=4*(29088/100000000000*(1/2^34))/\(1:Rat)/2^34<=1/1000/\(1:Rat)/2^150<=29088/100000000000*(1/2^34)/\(0:Rat)<=1/2^54:=by decide+kernel
 have c4:(4400:Rat)<=2^192*(29088/100000000000*(1/2^34)):=by decide+kernel
 have V0:(0:Rat)<V:=by have:(0:Rat)<2^192:=(by decide+kernel);grind
 obtain ⟨w,hw⟩:∃w,w=U'+U:=⟨_,rfl⟩
 have w0:0<w:=by grind
 unfold cG at hd
 unfold f9 at*
 rw [c.2.1]
 have e0:=c.1
 have c2:=c.2.2.1
 have c3:=c.2.2.2.1
 have c5:=c.2.2.2.2.1
 have c6:=c.2.2.2.2.2
 clear c
 rw [<-hw] at hd hv
 clear hw
 generalize (1:Rat)/2^34=e at*
 generalize (1:Rat)/2^54=f at*
 generalize (1:Rat)/2^150=g at*
 generalize U'-U=x at*
 have pe0:=Rat.mul_nonneg (show 0<=p-29088/100000000000 by grind) e0
 have fpe:f<=4*(p*e):=by grind
 have gpe:g<=p*e:=by grind
 have we:=Rat.mul_nonneg (Rat.le_of_lt w0) e0
 have q1:=Rat.mul_nonneg (Rat.le_of_lt w0) (show 0<=4*(p*e)-f by grind)
 have q2:=Rat.mul_nonneg (show 0<=p*w+f*w-x by grind) (show 0<=1+e by grind)
 have q3:=Rat.mul_nonneg (show 0<=x-(p*w-f*w) by grind) (show 0<=1-e by grind)
 have pe:=Rat.mul_nonneg (show 0<=p by grind) e0
 have pee:=Rat.mul_nonneg pe (show 0<=1/1000-e by grind)
 have q4:=Rat.mul_nonneg (show 0<=4*(p*e)-f by grind) (show 0<=e by grind)
 have q5:=Rat.mul_nonneg pe e0
 have q6:=Rat.mul_nonneg q5 e0
 have d1:p-5*(p*e)<=d:=by
  have a:0<=w*(d-(p-5*(p*e))):=by
   have t1:=Rat.mul_nonneg (Rat.le_of_lt w0) (Rat.mul_nonneg c6 e0)
   grind
  have:=b8 w0 a
  grind
 have d2:d<=p+6*(p*e):=by
  have a:0<=w*(p+6*(p*e)-d):=by
   have t1:=Rat.mul_nonneg (Rat.le_of_lt w0) q4
   have t2:=Rat.mul_nonneg (Rat.le_of_lt w0) pee
   have t3:=Rat.mul_nonneg (Rat.le_of_lt w0) pe
   grind
  have:=b8 w0 a
  grind
 have D1:p-7*(p*e)<=D:=by grind
 have D2:D<=p+7*(p*e):=by grind
 have v4:4400<=V*(p*e):=by
  have a:=Rat.mul_nonneg (Rat.le_of_lt V0) pe0
  have b:=Rat.mul_nonneg (show 0<=V-2^192 by grind) (show 0<=29088/100000000000*e by grind)
  grind
 have m1:=Rat.mul_nonneg (Rat.le_of_lt V0) (show 0<=D-(p-7*(p*e)) by grind)
 have m2:=Rat.mul_nonneg (Rat.le_of_lt V0) (show 0<=p+7*(p*e)-D by grind)
 have m3:=Rat.mul_nonneg (Rat.le_of_lt V0) pe
 clear q1 q2 q3 q4 q5 q6 pee hd hv d1 d2 D1 D2 we pe0 hD
 constructor<;>grind
theorem a1r (n:Nat) (hn:n<=4800000):29088/100000000000<=vQ n/\vQ n<=168/100000000:=by
 have a:=iI (n+1) (by omega)
 have c:=(fR.z_bd (uW*(n:Int))).1.2
 have e:=vO n hn
 have s:=a04
 change 0<=_/\_/\1735/10000<=cQ (n+1) at a
 change cQ n<=1 at c
 generalize cQ (n+1)=C' at*
 generalize cQ n=C at*
 generalize vQ n=p at*
 generalize wR=t at*
 constructor
 ·have:=Rat.mul_nonneg e.2.1 (show 0<=1-C by grind);grind
 ·have:=Rat.mul_nonneg e.2.1 (show 0<=C'-1735/10000 by grind);grind
theorem YW (n:Nat) (hn:n<=4800000):vN*vQ n*(1-1/2^31)<=(hl (uI (n+1)):Rat)-hl (uI n)/\(hl (uI (n+1)):Rat)-hl (uI n)<=vN*vQ n*(1+1/2^31):=by
 have a:=iI n (by omega)
 have b:=iI (n+1) (by omega)
 have e:=vO n hn
 have pb:=a1r n hn
 have f:=uH n (by omega)
 have g:=uH (n+1) (by omega)
 obtain ⟨k,_,k1,k2,kn⟩:=IN (uI n) f.1 f.2.1
 obtain ⟨k',_,k3,k4,kn'⟩:=IN (uI (n+1)) g.1 g.2.1
 change 3/4<=uQ n/2^k at k1
 change uQ n/2^k<3/2 at k2
 change f9 _ (vN*lR k (uQ n)) 2200 at kn
 change 3/4<=uQ (n+1)/2^k' at k3
 change uQ (n+1)/2^k'<3/2 at k4
 change f9 _ (vN*lR k' (uQ (n+1))) 2200 at kn'
 change 0<=sQ n/\sQ n<=_/\_ at a
 change 0<=sQ (n+1)/\sQ (n+1)<=_/\_ at b
 have v:=XH (sQ n) (sQ (n+1)) (uQ n) (uQ (n+1)) (vQ n) a.1 a.2.1 b.1 b.2.1 f.2.2.1 g.2.2.1 e.2.1 (by grind) e.1
 have c54:(0:Rat)<=1/2^54/\(1:Rat)/2^54<=1/10000000000/\38/10000000<=(1:Rat)/2^18:=by decide+kernel
 have v3:=v.2.2
 have le:uQ n<=uQ (n+1):=by
  unfold f9 at v3
  generalize (1:Rat)/2^54=E at*
  have:=Rat.mul_nonneg (show 0<=vQ n-E by grind) (show 0<=uQ (n+1)+uQ n by grind)
  grind
 have sm:uQ (n+1)-uQ n<=uQ n*(1/2^18):=by
  unfold f9 at v3
  generalize (1:Rat)/2^54=E at*
  generalize (1:Rat)/2^18=F at*
  have m1:=Rat.mul_nonneg (show 0<=169/100000000-(vQ n+E) by grind) (show 0<=uQ (n+1)+uQ n by grind)
  have m2:=Rat.mul_nonneg (show 0<=F-38/10000000 by grind) (show 0<=uQ n by grind)
  grind
 obtain ⟨d,d1,d2⟩:=XO (uQ n) (uQ (n+1)) k k' k1 k2 k3 k4 le sm
 refine XJ vN (vQ n) (uQ n) (uQ (n+1)) d _ (by decide+kernel) pb.1 v.1 v.2.1 v3 d2 _ d1 ?_
 unfold f9 at*
 generalize lR k' (uQ (n+1))=X at*
 generalize lR k (uQ n)=Y at*
 constructor<;>grind
def gQ (n:Nat):Rat:=(hl (uI n):Rat)*10800000/aP
def wP (n:Nat):Int:=hl (uI n)*10800000/aP
theorem IQ:(0:Rat)<aP:=by decide+kernel
theorem a3f (n:Nat):(wP n:Rat)<=gQ n/\gQ n<=(wP n:Rat)+1:=by
 have e:=R6 (hl (uI n)*10800000) aP (by decide+kernel)
 have p:=IQ
 have g:gQ n*aP=(hl (uI n):Rat)*10800000:=Rat.div_mul_cancel (by grind)
 rw [Rat.intCast_mul] at e
 change (wP n:Rat)*_<=_/\_<=(wP n:Rat)*_+_ at e
 have c:((10800000:Int):Rat)=10800000:=rfl
 rw [c,<-g] at e
 constructor
 ·have:=b8 p (show 0<=(aP:Rat)*(gQ n-wP n) by grind);grind
 ·have:=b8 p (show 0<=(aP:Rat)*(wP n+1-gQ n) by grind);grind
theorem YG:hl (uI 0)=0:=by decide+kernel
theorem JX:gQ 0=0:=by unfold gQ;rw [YG];decide+kernel
def gZ (z:Int):Rat:=if 0<=z then gQ z.natAbs else -gQ z.natAbs
def sZ (z:Int):Rat:=fR.s' (uW*z)
def cZ (z:Int):Rat:=fR.c' (uW*z)
def uL:Rat:=10800000*vN/aP
theorem a1F:1-1/2^40<=uL*wR/\uL*wR<=1+1/2^40:=by
 have u:=nH.2
 have z:=(fR.z_nat uW).2
 unfold wR
 rw [z]
 have k0:0<uL:=by decide+kernel
 have a:(1-1/2^40)*2^128<=uL*(98984128154162191825446416122235-4)/\uL*(98984128154162191825446416122235+4)<=(1+1/2^40)*2^128:=by decide+kernel
 have t:(0:Rat)<2^128:=by decide+kernel
 unfold f9 at u
 generalize (fR.C uW).2=x at*
 have m1:=Rat.mul_nonneg (Rat.le_of_lt k0) (show 0<=2^128*x-(98984128154162191825446416122235-4) by grind)
 have m2:=Rat.mul_nonneg (Rat.le_of_lt k0) (show 0<=98984128154162191825446416122235+4-2^128*x by grind)
 generalize uL=k at*
 generalize (1:Rat)/2^40=e at*
 generalize (2:Rat)^128=T at*
 constructor
 ·have:=b8 t (show 0<=T*(k*x-(1-e)) by grind);grind
 ·have:=b8 t (show 0<=T*(1+e-k*x) by grind);grind
theorem vV (n:Nat) (hn:n<=4800000):uL*vQ n*(1-1/2^31)<=gQ (n+1)-gQ n/\gQ (n+1)-gQ n<=uL*vQ n*(1+1/2^31):=by
 have h:=YW n hn
 have p:=IQ
 have g:gQ n*aP=(hl (uI n):Rat)*10800000:=Rat.div_mul_cancel (by grind)
 have g':gQ (n+1)*aP=(hl (uI (n+1)):Rat)*10800000:=Rat.div_mul_cancel (by grind)
 have k:uL*aP=10800000*vN:=Rat.div_mul_cancel (by grind)
 generalize (hl (uI n):Rat)=x at*
 generalize (hl (uI (n+1)):Rat)=y at*
 generalize gQ n=a at*
 generalize gQ (n+1)=b at*
 generalize vQ n=q at*
 generalize uL=K at*
 generalize (1:Rat)/2^31=e at*
 generalize (vN:Rat)=V at*
 generalize (aP:Rat)=P at*
 constructor
 ·have i:P*(b-a-K*q*(1-e))=10800000*(y-x-V*q*(1-e)):=by
   have:P*(b-a-K*q*(1-e))=b*P-a*P-K*P*(q*(1-e)):=by grind
   rw [this,g,g',k];grind
  have:=b8 p (show 0<=P*(b-a-K*q*(1-e)) by rw [i];grind)
  grind
 ·have i:P*(K*q*(1+e)-(b-a))=10800000*(V*q*(1+e)-(y-x)):=by
   have:P*(K*q*(1+e)-(b-a))=K*P*(q*(1+e))-(b*P-a*P):=by grind
   rw [this,g,g',k];grind
  have:=b8 p (show 0<=P*(K*q*(1+e)-(b-a)) by rw [i];grind)
  grind
theorem a0T (s t:Rat):jK (-t) (-s)=jK s t:=by unfold jK;rw [show -s - -t=t-s by grind,show 1 - -t* -s=1-s*t by grind]
def JR (z:Int):Rat:=jK (sZ z) (sZ (z+1))
theorem z_step (z:Int) (h0: -4800000<=z) (h1:z<4800000):uL*JR z*(1-1/2^31)<=gZ (z+1)-gZ z/\gZ (z+1)-gZ z<=uL*JR z*(1+1/2^31)/\
  0<=JR z/\(wR<=cZ z*JR z\/wR<=cZ (z+1)*JR z)/\(cZ z*JR z<=wR\/cZ (z+1)*JR z<=wR):=by
 by_cases h:0<=z
 ·obtain ⟨n,rfl⟩:∃n:Nat,z=n:=⟨z.toNat,by omega⟩
  have g:=vV n (by omega)
  have e:=vO n (by omega)
  have i1:gZ ((n:Int)+1)=gQ (n+1):=by unfold gZ;rw [if_pos (by omega)];congr 1
  have i2:gZ (n:Int)=gQ n:=by unfold gZ;rw [if_pos (by omega)];congr 1
  rw [i1,i2]
  exact ⟨g.1,g.2,e.2.1,.inl e.2.2.1,.inr e.2.2.2⟩
 ·obtain ⟨n,rfl⟩:∃n:Nat,z= -((n:Int)+1):=⟨(-z-1).toNat,by omega⟩
  have g:=vV n (by omega)
  have e:=vO n (by omega)
  have i1:gZ (-((n:Int)+1)+1)= -gQ n:=by
   rcases Nat.eq_zero_or_pos n with k|k
   ·subst k;have z0:=JX;unfold gZ;simp [z0]
   ·unfold gZ;rw [if_neg (by omega)];congr 2;omega
  have i2:gZ (-((n:Int)+1))= -gQ (n+1):=by unfold gZ;rw [if_neg (by omega)];congr 2
  have n1:=fR.z_neg (uW*(n:Int))
  have n2:=fR.z_neg (uW*((n+1:Nat):Int))
  have j1:(uW:Int)*(-((n:Int)+1)+1)= -(uW*(n:Int)):=by rw [<-Int.mul_neg];congr 1;omega
  have j2:(uW:Int)*(-((n:Int)+1))= -(uW*((n+1:Nat):Int)):=by rw [<-Int.mul_neg];congr 1
  have p:JR (-((n:Int)+1))=vQ n:=by
   unfold JR vQ sZ sQ
   rw [j1,j2,n1.2,n2.2]
   exact a0T _ _
  have c1:cZ (-((n:Int)+1))=cQ (n+1):=by unfold cZ cQ;rw [j2,n2.1]
  have c2:cZ (-((n:Int)+1)+1)=cQ n:=by unfold cZ cQ;rw [j1,n1.1]
  rw [i1,i2,p,c1,c2]
  refine ⟨?_,?_,e.2.1,.inr e.2.2.1,.inl e.2.2.2⟩<;>grind
theorem EH (A:Int) (n:Nat) (q q':Rat) (hA: -4800000<=A) (hB:A+n<=4800000) (hq:∀z,A<=z->z<=A+n->q'<=cZ z/\cZ z<=q) (q0:0<q'):
  n*(1-5/2^33)<=(gZ (A+n)-gZ A)*q/\(gZ (A+n)-gZ A)*q'<=n*(1+5/2^33)/\gZ (A+n)-gZ A<=uL*(1+1/2^31)*R8 (fun i=>sZ (A+(i:Nat))) n:=by
 induction n with
 |zero=>
  have e:A+((0:Nat):Int)=A:=by omega
  rw [e]
  simp only [R8]
  refine ⟨?_,?_,?_⟩<;>grind
 |succ n ih=>
  have h:=ih (by omega) (fun z h1 h2=>hq z h1 (by omega))
  have s:=z_step (A+n) (by omega) (by omega)
  have b1:=hq (A+n) (by omega) (by omega)
  have b2:=hq (A+n+1) (by omega) (by omega)
  have k:=a1F
  rw [show A+((n+1:Nat):Int)=A+n+1 by omega]
  have pe:R8 (fun i=>sZ (A+(i:Nat))) (n+1)=R8 (fun i=>sZ (A+(i:Nat))) n+JR (A+n):=by
   simp only [R8]
   unfold JR
   rw [show A+((n+1:Nat):Int)=A+n+1 by omega]
  rw [pe]
  have nc:((n+1:Nat):Rat)=(n:Rat)+1:=by push_cast;rfl
  rw [nc]
  have c:(0:Rat)<=1/2^31/\(1-1/2^31)*(1-1/2^40)>=1-(5:Rat)/2^33/\(1+1/2^31)*(1+1/2^40)<=1+(5:Rat)/2^33/\(1:Rat)/2^31<=1:=by decide+kernel
  have k0:0<uL:=by decide+kernel
  have lo:wR<=q*JR (A+n):=by
   rcases s.2.2.2.1 with t|t
   ·have:=Rat.mul_nonneg s.2.2.1 (show 0<=q-cZ (A+n) by grind);grind
   ·have:=Rat.mul_nonneg s.2.2.1 (show 0<=q-cZ (A+n+1) by grind);grind
  have hi:q'*JR (A+n)<=wR:=by
   rcases s.2.2.2.2 with t|t
   ·have:=Rat.mul_nonneg s.2.2.1 (show 0<=cZ (A+n)-q' by grind);grind
   ·have:=Rat.mul_nonneg s.2.2.1 (show 0<=cZ (A+n+1)-q' by grind);grind
  have s1:=s.1
  have s2:=s.2.1
  have qq:0<=q:=by grind
  clear s hq ih b1 b2 pe nc
  generalize gZ (A+n+1)=G' at*
  generalize gZ (A+n)=G at*
  generalize gZ A=G0 at*
  generalize JR (A+n)=p at*
  generalize R8 (fun i=>sZ (A+(i:Nat))) n=R at*
  generalize wR=u at*
  generalize uL=K at*
  generalize (1:Rat)/2^31=e at*
  generalize (1:Rat)/2^40=f at*
  generalize (5:Rat)/2^33=g at*
  have m1:=Rat.mul_nonneg (show 0<=G'-G-K*p*(1-e) by grind) qq
  have m2:=Rat.mul_nonneg (show 0<=K*p*(1+e)-(G'-G) by grind) (Rat.le_of_lt q0)
  have m3:=Rat.mul_nonneg (Rat.mul_nonneg (Rat.le_of_lt k0) (show 0<=1-e by grind)) (show 0<=q*p-u by grind)
  have m4:=Rat.mul_nonneg (Rat.mul_nonneg (Rat.le_of_lt k0) (show 0<=1+e by grind)) (show 0<=u-q'*p by grind)
  have m5:=Rat.mul_nonneg (show 0<=1-e by grind) (show 0<=K*u-(1-f) by grind)
  have m6:=Rat.mul_nonneg (show 0<=1+e by grind) (show 0<=1+f-K*u by grind)
  refine ⟨?_,?_,?_⟩<;>grind
def CE (z:Int):Int:=if z=0 then 0 else if z<0 then -wP z.natAbs-1 else wP z.natAbs
def CC (z:Int):Int:=if z=0 then 0 else if z<0 then -wP z.natAbs else wP z.natAbs+1
theorem MH (z:Int):(CE z:Rat)<=gZ z/\gZ z<=CC z:=by
 have w:=a3f z.natAbs
 unfold CE CC gZ
 by_cases h:z=0
 ·subst h
  have g:=JX
  simp [g]
 ·by_cases k:z<0
  ·rw [if_neg h,if_neg h,if_pos k,if_pos k,if_neg (by omega)]
   push_cast
   constructor<;>grind
  ·rw [if_neg h,if_neg h,if_neg k,if_neg k,if_pos (by omega)]
   push_cast
   constructor<;>grind
def X7 (A:Int) (n:Nat):Int:=CE (A+n)-CC A
def jJ (A:Int) (n:Nat):Int:=CC (A+n)-CE A
def zS (A:Int) (n:Nat):Int:=(n*1073741824:Int)/jJ A n
def mP (A:Int) (n:Nat):Int:= -(-(n*1073741824:Int)/X7 A n)
theorem a3o (N m:Int) (h:m≠0):N<= -(-N/m)*m:=by
 have:=Int.ediv_mul_le (-N) h
 rw [Int.neg_mul]
 omega
def IH (A:Int) (n:Nat) (cl ch:Int):Prop:=∀z,A<=z->z<=A+n->(cl:Rat)/1073741824-1/2^60<=cZ z/\cZ z<=(ch:Rat)/1073741824+1/2^60
theorem a0y (A:Int) (n:Nat) (cl ch:Int) (hA: -4800000<=A) (hB:A+n<=4800000) (hc:IH A n cl ch) (hn:0<n) (c0:100000000<=cl) (c1:ch<=1073741824) (c2:cl<=ch) (hm:0<X7 A n):
  X7 A n<=jJ A n/\0<=zS A n/\zS A n<=ch/\cl<=mP A n/\zS A n<=mP A n/\mP A n<=n*1073741824:=by
 have a:=MH A
 have b:=MH (A+n)
 have l1:(X7 A n:Rat)<=gZ (A+n)-gZ A:=by unfold X7;rw [Rat.intCast_sub];grind
 have l2:gZ (A+n)-gZ A<=(jJ A n:Rat):=by unfold jJ;rw [Rat.intCast_sub];grind
 have ml:X7 A n<=jJ A n:=R7 (Rat.le_trans l1 l2)
 have d:(0:Rat)<=1/2^60/\(1:Rat)/2^60*1073741824<=1/1000000:=by decide+kernel
 have c0r:=v6 c0
 have c1r:=v6 c1
 have c2r:=v6 c2
 have k1:((100000000:Int):Rat)=100000000:=rfl
 have k2:((1073741824:Int):Rat)=1073741824:=rfl
 rw [k1] at c0r
 rw [k2] at c1r
 have g:=EH A n ((ch:Rat)/1073741824+1/2^60) ((cl:Rat)/1073741824-1/2^60) hA hB (fun z h1 h2=>hc z h1 h2) (by
  have:(1:Rat)/2^60<=1/1000:=by decide+kernel
  grind)
 have n0:(1:Rat)<=n:=by exact_mod_cast hn
 have q1:(zS A n)*jJ A n<=n*1073741824:=Int.ediv_mul_le _ (by omega)
 have q2:n*1073741824<=(mP A n)*X7 A n:=a3o _ _ (Int.ne_of_gt hm)
 have q3:0<=zS A n:=Int.ediv_nonneg (by omega) (by omega)
 have q7:mP A n<=n*1073741824:=by
  have: -(n*1073741824:Int)<= -(n*1073741824:Int)/X7 A n:=by
   apply Int.le_ediv_of_mul_le hm
   have:=Int.mul_le_mul_of_nonneg_left (show 1<=X7 A n by omega) (show 0<=(n*1073741824:Int) by omega)
   rw [Int.neg_mul]
   omega
  unfold mP
  omega
 generalize zS A n=ql at*
 generalize mP A n=qh at*
 generalize X7 A n=mL at*
 generalize jJ A n=mH at*
 have N0:((n:Int):Rat)=(n:Rat):=rfl
 have e5:(5:Rat)/2^33*1073741825<=63/100/\(0:Rat)<=5/2^33/\(5:Rat)/2^33<=1/1000:=by decide+kernel
 have mLr:(0:Rat)<mL:=by have:=Rat.intCast_lt_intCast.2 hm;exact this
 have mHr:(0:Rat)<mH:=by grind
 have g1:=g.1
 have g2:=g.2.1
 clear g hc
 generalize gZ (A+n)-gZ A=G at*
 have d1:=d.2
 have d0:=d.1
 clear d
 have e5a:=e5.1
 have e5b:=e5.2.1
 have e5c:=e5.2.2
 clear e5
 generalize (5:Rat)/2^33=δ at*
 generalize (1:Rat)/2^60=ε at*
 have s1:n*1073741824<(ch+1)*mH:=by
  apply Rat.intCast_lt_intCast.1
  rw [Rat.intCast_mul,Rat.intCast_mul,Rat.intCast_add,N0,k2,show ((1:Int):Rat)=1 from rfl]
  generalize (mH:Rat)=H at*
  generalize (ch:Rat)=C at*
  generalize (n:Rat)=N at*
  have t1:N*1073741824*(1-δ)<=H*(C+1/1000000):=by
   have u1:=Rat.mul_nonneg (show 0<=G by grind) (show 0<=1/1000000-ε*1073741824 by grind)
   have u2:=Rat.mul_nonneg (show 0<=H-G by grind) (show 0<=C+1/1000000 by grind)
   grind
  have t2:=Rat.mul_nonneg e5b (show 0<=1073741824-C by grind)
  have t3:=Rat.mul_pos mHr (show 0<(C+1)*(1-δ)-(C+1/1000000) by grind)
  have:=Rat.mul_pos_iff_of_pos_left (a:=1-δ) (b:=(C+1)*H-N*1073741824) (by grind)
  have:=this.1 (by grind)
  grind
 have s2:(cl-1)*mL<n*1073741824:=by
  apply Rat.intCast_lt_intCast.1
  rw [Rat.intCast_mul,Rat.intCast_mul,Rat.intCast_sub,N0,k2,show ((1:Int):Rat)=1 from rfl]
  generalize (mL:Rat)=M at*
  generalize (cl:Rat)=C at*
  generalize (n:Rat)=N at*
  have t1:M*(C-1/1000000)<=N*1073741824*(1+δ):=by
   have u1:=Rat.mul_nonneg (show 0<=G by grind) (show 0<=1/1000000-ε*1073741824 by grind)
   have u2:=Rat.mul_nonneg (show 0<=G-M by grind) (show 0<=C-1/1000000 by grind)
   grind
  have t2:=Rat.mul_nonneg e5b (show 0<=1073741824-C by grind)
  have t3:=Rat.mul_pos mLr (show 0<C-1/1000000-(C-1)*(1+δ) by grind)
  have:=Rat.mul_pos_iff_of_pos_left (a:=1+δ) (b:=N*1073741824-(C-1)*M) (by grind)
  have:=this.1 (by grind)
  grind
 refine ⟨ml,q3,?_,?_,?_,?_⟩
 ·have:ql<ch+1:=Int.lt_of_mul_lt_mul_right (Int.lt_of_le_of_lt q1 s1) (by omega)
  omega
 ·have:cl-1<qh:=Int.lt_of_mul_lt_mul_right (Int.lt_of_lt_of_le s2 q2) (by omega)
  omega
 ·have q5:0<=qh:=by
   have:cl-1<qh:=Int.lt_of_mul_lt_mul_right (Int.lt_of_lt_of_le s2 q2) (by omega)
   omega
  have q6:qh*mL<=qh*mH:=Int.mul_le_mul_of_nonneg_left ml q5
  exact Int.le_of_mul_le_mul_right (Int.le_trans q1 (Int.le_trans q2 q6)) (by omega)
 ·exact q7
theorem SE (A:Int) (n:Nat) (q:Rat) (hA: -4800000<=A) (hB:A+n<=4800000) (h1:cZ A<=q) (h2:cZ (A+n)<=q) (h3:A<=0->0<=A+n->1<=q) (f:Int) (g1:uW*A<=f) (g2:f<=uW*(A+n)):0<=fR.c' f/\fR.c' f<=q:=by
 have uw:(uW:Int)=2^80:=rfl
 have uA:(uW:Int)*A=2^80*A:=by rw [uw]
 have uB:(uW:Int)*(A+n)=2^80*(A+n):=by rw [uw]
 refine ⟨Rat.le_of_lt (jM f (by unfold kQ;omega)),?_⟩
 by_cases a:0<A
 ·have m:=fR.C_mono O9.1 O9.2 kQ X6 (uW*A).natAbs (f.natAbs-(uW*A).natAbs) (by unfold kQ;omega)
  rw [show (uW*A).natAbs+(f.natAbs-(uW*A).natAbs)=f.natAbs by omega] at m
  exact Rat.le_trans m h1
 ·by_cases b:A+n<0
  ·have m:=fR.C_mono O9.1 O9.2 kQ X6 (uW*(A+n)).natAbs (f.natAbs-(uW*(A+n)).natAbs) (by unfold kQ;omega)
   rw [show (uW*(A+n)).natAbs+(f.natAbs-(uW*(A+n)).natAbs)=f.natAbs by omega] at m
   exact Rat.le_trans m h2
  ·exact Rat.le_trans (fR.z_bd f).1.2 (h3 (by omega) (by omega))
theorem a1E:uL*(1+1/2^31)*(uL*(1+1/2^31))*(2^80*2^80*fR.D 1)<=1+1/2^26:=by rw [Rg.D_one];decide+kernel
theorem a2b {n L most mL Q qh:Int} (L0:0<=L) (m0:0<mL) (q2:n*1073741824<=Q*mL) (hq:Q<=qh) (hm:qh*L<=most*1073741824):n*L<=most*mL:=by
 have t1:=Int.mul_le_mul_of_nonneg_right q2 L0
 have t2:=Int.mul_le_mul_of_nonneg_right hq (Int.mul_nonneg (Int.le_of_lt m0) L0)
 have t3:=Int.mul_le_mul_of_nonneg_right hm (Int.le_of_lt m0)
 apply Int.le_of_mul_le_mul_left _ (show (0:Int)<1073741824 by omega)
 have u1:n*1073741824*L=1073741824*(n*L):=by grind
 have u2:Q*mL*L=Q*(mL*L):=by grind
 have u3:qh*(mL*L)=qh*L*mL:=by grind
 have u4:most*1073741824*mL=1073741824*(most*mL):=by grind
 omega
theorem a2V {n L most mL K P D T R:Rat} (n0:0<=n) (L0:0<=L) (M0:0<=most) (k0:0<K) (d0:0<=D) (m0:0<mL) (q3:n*L<=most*mL) (l3:mL<=K*P) (ks:K*K*(T*T*D)<=R):
  n*n*(T*L*(T*L)*D)<=R*(most*most)*(P*P)/\0<P:=by
 constructor
 ·have N0:=Rat.mul_nonneg n0 L0
  have i1:n*n*(T*L*(T*L)*D)=n*L*(n*L)*(T*T*D):=by grind
  rw [i1]
  have Q0:0<=T*T*D:=Rat.mul_nonneg (x7 T) d0
  generalize n*L=x at*
  have x1:x<=most*(K*P):=by have:=Rat.mul_le_mul_of_nonneg_left l3 M0;grind
  have x2:x*x<=(most*(K*P))*(most*(K*P)):=by
   have a:=Rat.mul_le_mul_of_nonneg_left x1 N0
   have b:=Rat.mul_le_mul_of_nonneg_right x1 (show 0<=most*(K*P) by grind)
   grind
  have x3:=Rat.mul_le_mul_of_nonneg_right x2 Q0
  have x4:=Rat.mul_le_mul_of_nonneg_left ks (Rat.mul_nonneg (x7 most) (x7 P))
  generalize T*T*D=Z at*
  grind
 ·exact (Rat.mul_pos_iff_of_pos_left k0).1 (by grind)
theorem a2e {qh L m Y n e:Rat} (L0:0<=L) (L1:L<=10800000) (M1:m<=10800000) (q0:0<=qh) (e0:0<=e) (e1:(10800000*10800000*3:Rat)*e<=1/1000) (e2:e<=1) (hm:qh*L<=m*1073741824) (hY:n*n+m*m<=Y*Y):
  n*n+((qh/1073741824+e)*L)*((qh/1073741824+e)*L)<=Y*Y+1/8:=by
 have a1:(qh/1073741824+e)*L<=m+e*L:=by grind
 have a0:0<=qh/1073741824+e:=by grind
 generalize qh/1073741824+e=q at*
 have e3:e*L<=e*10800000:=by have:=Rat.mul_nonneg e0 (show 0<=10800000-L by grind);grind
 have e4:q*L<=m+e*10800000:=by grind
 have ql0:=Rat.mul_nonneg a0 L0
 have f1:=Rat.mul_le_mul_of_nonneg_left e4 ql0
 have f2:=Rat.mul_le_mul_of_nonneg_right e4 (show 0<=m+e*10800000 by grind)
 have f3:=Rat.mul_nonneg e0 (show 0<=10800000-m by grind)
 have f4:=Rat.mul_nonneg e0 (show 0<=1-e by grind)
 grind
theorem VO (A:Int) (n L most Y:Nat) (cl ch qh:Int) (hA: -4800000<=A) (hB:A+n<=4800000) (hL:L<=10800000) (hc:IH A n cl ch) (hz:A<=0->0<=A+n->ch=1073741824) (hch:0<=ch)
  (hq:ch<=qh\/(0<n/\0<X7 A n/\mP A n<=qh)) (hm:qh*L<=most*1073741824) (hY:n*n+most*most<=Y*Y) (hY1:Y<10800000):
  (fR.C (2^80*Y+2^79)).1<=fR.c' (uW*n)-fR.c' (uW*A)*fR.c' (uW*(A+n))*(1-fR.c' (uW*L)):=by
 have mY:most<=Y:=by
  apply Classical.byContradiction
  intro g
  have:=Nat.mul_le_mul (show Y+1<=most by omega) (show Y+1<=most by omega)
  have e:(Y+1)*(Y+1)=Y*Y+2*Y+1:=by grind
  omega
 have hYr:(n:Rat)*n+(most:Rat)*most<=(Y:Rat)*Y:=by
  have:((n*n+most*most:Nat):Rat)<=((Y*Y:Nat):Rat):=Rat.natCast_le_natCast.2 hY
  push_cast at this
  exact this
 have hmr:(qh:Rat)*L<=most*1073741824:=by
  have:=v6 hm
  rw [Rat.intCast_mul,Rat.intCast_mul] at this
  exact this
 have L0:(0:Rat)<=L:=by exact_mod_cast Nat.zero_le L
 have M0:(0:Rat)<=most:=by exact_mod_cast Nat.zero_le most
 rcases hq with hq|⟨n0,m0,hq⟩
 ·have d:(0:Rat)<=1/2^60/\(10800000*10800000*3:Rat)*(1/2^60)<=1/1000/\(1:Rat)/2^60<=1:=by decide+kernel
  have hqr:=v6 hq
  have ca:=(hc A (by omega) (by omega)).2
  have cb:=(hc (A+n) (by omega) (by omega)).2
  have k2:((1073741824:Int):Rat)=1073741824:=rfl
  have hz2:A<=0->0<=A+n->(ch:Rat)=1073741824:=fun h1 h2=>by rw [hz h1 h2];exact k2
  have L1:(L:Rat)<=10800000:=by
    have:((L:Nat):Rat)<=((10800000:Nat):Rat):=Rat.natCast_le_natCast.2 hL
    exact this
  have M1:(most:Rat)<=10800000:=by
    have:((most:Nat):Rat)<=((10800000:Nat):Rat):=Rat.natCast_le_natCast.2 (by omega)
    exact this
  have q0:(0:Rat)<=qh:=by have:=v6 hch;have z:((0:Int):Rat)=0:=rfl;rw [z] at this;grind
  have hn:n<=10800000:=by omega
  refine a24 A n L Y ((qh:Rat)/1073741824+1/2^60) hn hY1 (SE A n _ hA hB ?_ ?_ ?_) (a2e L0 L1 M1 q0 d.1 d.2.1 d.2.2 hmr hYr)
  ·generalize cZ A=x at*;generalize (1:Rat)/2^60=e at*;clear hYr;grind
  ·generalize cZ (A+n)=x at*;generalize (1:Rat)/2^60=e at*;clear hYr;grind
  ·intro h1 h2
   have:=hz2 h1 h2
   generalize (1:Rat)/2^60=e at*
   clear hYr
   grind
 ·have g:=EH A n 1 (1/10) hA hB (fun z h1 h2=>by
    have uw:(uW:Int)=2^80:=rfl
    refine ⟨?_,(fR.z_bd _).1.2⟩
    have l:=(iI z.natAbs (by omega)).2.2
    have e:cZ z=cQ z.natAbs:=by
     unfold cZ cQ Rg.c'
     congr 2
     rw [uw]
     omega
    rw [e]
    change 1735/10000<=cQ z.natAbs at l
    generalize cQ z.natAbs=c at*
    grind) (by decide+kernel)
  have b:=(MH (A+n)).1
  have a:=(MH A).2
  have l1:(X7 A n:Rat)<=gZ (A+n)-gZ A:=by
   unfold X7
   rw [Rat.intCast_sub]
   generalize gZ (A+n)=x at*
   generalize gZ A=y at*
   generalize (CE (A+n):Rat)=p at*
   generalize (CC A:Rat)=r at*
   clear g
   grind
  have l3:(X7 A n:Rat)<=uL*(1+1/2^31)*R8 (fun i=>sZ (A+(i:Nat))) n:=Rat.le_trans l1 g.2.2
  have q2:n*1073741824<=(mP A n)*X7 A n:=a3o _ _ (Int.ne_of_gt m0)
  have q3:=a2b (show 0<=(L:Int) by omega) m0 q2 hq hm
  have m0r:(0:Rat)<X7 A n:=by have:=Rat.intCast_lt_intCast.2 m0;exact this
  have q3r:=v6 q3
  rw [Rat.intCast_mul,Rat.intCast_mul] at q3r
  change (n:Rat)*L<=most*(X7 A n:Rat) at q3r
  have k0:0<uL*(1+1/2^31):=by decide+kernel
  have N0:(0:Rat)<=n:=by exact_mod_cast Nat.zero_le n
  have k:=a2V N0 L0 M0 k0 (fR.D_pos 1) m0r q3r l3 a1E
  have c80:((uW*L:Nat):Rat)=2^80*L:=by rw [Rat.natCast_mul];rfl
  refine a1U A n L Y ((most:Rat)*most) (R8 (fun i=>fR.s' (uW*(A+(i:Nat)))) n) n0 hA hB hY1 k.2 Rat.le_refl (x7 _) ?_ ?_
  ·rw [c80]
   exact k.1
  ·exact Rat.le_trans hYr (by have:(0:Rat)<=1/8:=(by decide+kernel);generalize (Y:Rat)*Y=y;clear hYr k g;grind)
theorem yB (x sq:Int) (x0:0<=x) (s0:0<=sq) (s1:sq<=2*2^192) (j:Nat):0<=N4 x sq 1 j/\2*N4 x sq 1 (j+1)<=N4 x sq 1 j/\N4 x sq 1 j*sq/2^192<=2*N4 x sq 1 j:=by
 have st:∀j,0<=N4 x sq 1 j->0<=N4 x sq 1 (j+1)/\2*N4 x sq 1 (j+1)<=N4 x sq 1 j/\N4 x sq 1 j*sq/2^192<=2*N4 x sq 1 j:=fun j h=>by
  have d:6<=(2*(j:Int)+1+(1:Nat))*(2*(j:Int)+2+(1:Nat)):=by
   have:=Int.mul_le_mul (show (2:Int)<=2*j+1+(1:Nat) by omega) (show (3:Int)<=2*j+2+(1:Nat) by omega) (by omega) (by omega)
   omega
  have a:N4 x sq 1 j*sq/2^192<=2*N4 x sq 1 j:=by
   have:N4 x sq 1 j*sq<=N4 x sq 1 j*(2*2^192):=Int.mul_le_mul_of_nonneg_left s1 h
   omega
  have b:0<=N4 x sq 1 j*sq/2^192:=Int.ediv_nonneg (Int.mul_nonneg h s0) (by decide)
  show 0<=N4 x sq 1 j*sq/2^192/_/\2*(N4 x sq 1 j*sq/2^192/_)<=_/\_
  generalize (2*(j:Int)+1+(1:Nat))*(2*(j:Int)+2+(1:Nat))=D at*
  generalize N4 x sq 1 j*sq/2^192=q at*
  have c:=Int.ediv_nonneg b (show 0<=D by omega)
  have e:D*(q/D)<=q:=Int.mul_ediv_self_le (by omega)
  have f:=Int.mul_le_mul_of_nonneg_right d c
  omega
 have pos:∀j,0<=N4 x sq 1 j:=fun j=>by
  induction j with
  |zero=>exact x0
  |succ j ih=>exact (st j ih).1
 have:=st j (pos j)
 exact ⟨pos j,this.2.1,this.2.2⟩
theorem ZP (x sq:Int) (x0:0<=x) (s0:0<=sq) (s1:sq<=2*2^192) (j:Nat):N4 x sq 1 j*2^j<=x:=by
 induction j with
 |zero=>show x*2^0<=x;omega
 |succ j ih=>
  have h:=(yB x sq x0 s0 s1 j).2.1
  have p:(0:Int)<=2^j:=Int.le_of_lt (Int.pow_pos (by decide))
  have:=Int.mul_le_mul_of_nonneg_right h p
  rw [Int.pow_succ]
  have e:N4 x sq 1 (j+1)*(2^j*2)=2*N4 x sq 1 (j+1)*2^j:=by grind
  omega
def pS (t:Nat->Int):Nat->Int
 |0=>0
 |i+1=>pS t i+t (2*i)
def mS (t:Nat->Int):Nat->Int
 |0=>0
 |i+1=>mS t i+t (2*i+1)
theorem a03 (t:Nat->Int) (h0:∀j,0<=t j) (h1:∀j,2*t (j+1)<=t j) (i:Nat):0<=pS t i/\pS t i+2*t (2*i)<=2*t 0/\0<=mS t i/\mS t i<=pS t i:=by
 induction i with
 |zero=>simp only [pS,mS,Nat.mul_zero];have:=h0 0;omega
 |succ i ih=>
  have a:=h0 (2*i)
  have b:=h0 (2*i+1)
  have c:=h1 (2*i)
  have d:=h1 (2*i+1)
  simp only [pS,mS]
  rw [show 2*(i+1)=2*i+1+1 by omega]
  omega
theorem yE (t:Nat->Int) (a b m:Nat):T7 t (2*a+b) m=T7 t (2*a) m+T7 t b (m+2*a):=by
 induction a generalizing m with
 |zero=>simp [T7]
 |succ a ih=>
  rw [show 2*(a+1)+b=2*a+b+1+1 by omega,show 2*(a+1)=2*a+1+1 by omega]
  simp only [T7]
  rw [ih,show m+(2*a+1+1)=m+1+1+2*a by omega]
  omega
theorem a1q (t:Nat->Int) (i:Nat):pS t i-mS t i=T7 t (2*i) 0:=by
 induction i with
 |zero=>rfl
 |succ i ih=>
  rw [show 2*(i+1)=2*i+2 by omega,yE]
  simp only [pS,mS,T7]
  rw [<-ih,Nat.zero_add]
  omega
theorem UR (t:Nat->Int) (k m:Nat) (h:∀j,m<=j->t j=0):T7 t k m=0:=by
 induction k generalizing m with
 |zero=>rfl
 |succ k ih=>simp only [T7];rw [h m (Nat.le_refl _),ih (m+1) (fun j hj=>h j (by omega))];rfl
theorem a2o (n i:Nat) (hi:i<=100) (h:N4 (O8 n) (jQ n) 1 (2*i)=0):pS (N4 (O8 n) (jQ n) 1) i-mS (N4 (O8 n) (jQ n) 1) i=sI n:=by
 have z:∀j,2*i<=j->N4 (O8 n) (jQ n) 1 j=0:=by
  intro j hj
  obtain ⟨k,rfl⟩:∃k,j=2*i+k:=⟨j-2*i,by omega⟩
  clear hj
  induction k with
  |zero=>exact h
  |succ k ih=>
   show N4 (O8 n) (jQ n) 1 (2*i+k)*jQ n/2^192/_=0
   rw [ih,Int.zero_mul,Int.zero_ediv,Int.zero_ediv]
 rw [a1q]
 unfold sI
 obtain ⟨b,hb⟩:∃b,200=2*i+b:=⟨200-2*i,by omega⟩
 rw [hb,yE,Nat.zero_add,UR _ b (2*i) z,Int.add_zero]
theorem a0P (n:Nat) (hn:n<=4800002):0<=O8 n/\O8 n<=2*2^192/\0<=jQ n/\jQ n<=2*2^192:=by
 have p:aP<=315*2^192/100:=by decide
 have a:aP*n<=aP*4800002:=Int.mul_le_mul_of_nonneg_left (by omega) (by decide)
 have a0:0<=aP*n:=Int.mul_nonneg (by decide) (by omega)
 have b:O8 n<=14*2^192/10:=by
  unfold O8
  have:aP*4800002/10800000<=14*2^192/10:=by decide
  omega
 have c:0<=O8 n:=Int.ediv_nonneg a0 (by decide)
 refine ⟨c,by omega,Int.ediv_nonneg (Int.mul_nonneg c c) (by decide),?_⟩
 unfold jQ
 have m:O8 n*O8 n<=(14*2^192/10)*(14*2^192/10):=Int.mul_le_mul b b c (by decide)
 have k:((14:Int)*2^192/10)*(14*2^192/10)<=2*2^192*2^192:=by decide
 apply Int.ediv_le_of_le_mul (by decide)
 exact Int.le_trans m k
end Go.Proofs.YtdhbeoahpfimbaaGreat
