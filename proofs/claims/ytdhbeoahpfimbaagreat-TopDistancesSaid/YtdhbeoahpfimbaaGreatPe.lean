/- Part of the proof of TopDistances. -/
import Derived.Test.YtdhbeoahpfimbaaGreatProg
import Derived.Test.YtdhbeoahpfimbaaGreatPc
namespace Go.Proofs.YtdhbeoahpfimbaaGreat
namespace Brg
def rR (f:Nat->Bool):Nat->Nat->Nat->Nat
 |0,lo,_=>lo
 |n+1,lo,hi=>if 1<hi-lo then (if f ((lo+hi)/2) then rR f n ((lo+hi)/2) hi else rR f n lo ((lo+hi)/2)) else lo
theorem UA (f:Nat->Bool):∀n lo hi,lo<=hi->lo<=rR f n lo hi/\rR f n lo hi<=hi:=by
 intro n
 induction n with
 |zero=>intro lo hi h;exact ⟨Nat.le_refl _,h⟩
 |succ n ih=>
  intro lo hi h
  unfold rR
  split
  ·split
   ·have:=ih ((lo+hi)/2) hi (by omega);omega
   ·have:=ih lo ((lo+hi)/2) (by omega);omega
  ·omega
theorem a1m (f:Nat->Bool):∀n lo hi,lo<hi->rR f n lo hi<hi:=by
 intro n
 induction n with
 |zero=>intro lo hi h;exact h
 |succ n ih=>
  intro lo hi h
  unfold rR
  split
  ·split
   ·exact ih ((lo+hi)/2) hi (by omega)
   ·have:=ih lo ((lo+hi)/2) (by omega);omega
  ·omega
theorem RW {f g:Nat->Bool} (h:∀k,f k=true->g k=true):∀n lo hi,lo<=hi->rR f n lo hi<=rR g n lo hi:=by
 intro n
 induction n with
 |zero=>intro lo hi _;exact Nat.le_refl _
 |succ n ih=>
  intro lo hi hl
  unfold rR
  split
  ·cases hf:f ((lo+hi)/2)
   ·cases hg:g ((lo+hi)/2)
    ·simp only [Bool.false_eq_true,if_false];exact ih _ _ (by omega)
    ·simp only [Bool.false_eq_true,if_false,if_true]
     have a:=UA f n lo ((lo+hi)/2) (by omega)
     have b:=UA g n ((lo+hi)/2) hi (by omega)
     omega
   ·simp only [h _ hf,if_true];exact ih _ _ (by omega)
  ·exact Nat.le_refl _
def cE (C S:Nat->Nat) (x y:Int) (k:Nat):Bool:=decide ((S k:Int)*x<=(C k:Int)*y)
theorem CX {C S:Nat->Nat} {x y x' y':Int} {k:Nat} (hx:0<x) (hx':0<=x') (h:y*x'<=x*y') (hr:cE C S x y k=true):cE C S x' y' k=true:=by
 unfold cE at*
 simp only [decide_eq_true_eq] at*
 have a:(S k:Int)*x*x'<=C k*y*x':=Int.mul_le_mul_of_nonneg_right hr hx'
 have b:(C k:Int)*(y*x')<=C k*(x*y'):=Int.mul_le_mul_of_nonneg_left h (by omega)
 have e1:(S k:Int)*x*x'=x*(S k*x'):=by rw [Int.mul_comm (S k:Int) x,Int.mul_assoc]
 have e2:(C k:Int)*(x*y')=x*(C k*y'):=by rw [<-Int.mul_assoc,Int.mul_comm (C k:Int) x,Int.mul_assoc]
 rw [Int.mul_assoc (C k:Int) y x'] at a
 rw [e1] at a
 rw [e2] at b
 exact Int.le_of_mul_le_mul_left (Int.le_trans a b) hx
def kS (C S:Nat->Nat) (x y:Int):Nat:=rR (cE C S x y) 23 0 5400000
theorem Y4 (C S:Nat->Nat) (x y:Int):kS C S x y<5400000:=a1m _ _ _ _ (by decide)
theorem aI {C S:Nat->Nat} {x y x' y':Int} (hx:0<x) (hx':0<=x') (h:y*x'<=x*y'):kS C S x y<=kS C S x' y':=
 RW (fun _=>CX hx hx' h) _ _ _ (by decide)
def bK (x y:Int):Nat:=if 0<x/\0<=y then 0 else if 0<y/\x<=0 then 1 else if x<0/\y<=0 then 2 else 3
def J6 (x y:Int):Int:=if 0<x/\0<=y then x else if 0<y/\x<=0 then y else if x<0/\y<=0 then -x else -y
def J8 (x y:Int):Int:=if 0<x/\0<=y then y else if 0<y/\x<=0 then -x else if x<0/\y<=0 then -y else x
def M7 (C S:Nat->Nat) (x y:Int):Int:=bK x y*5400000+kS C S (J6 x y) (J8 x y)
theorem eZ (C S:Nat->Nat) (x y:Int):0<=M7 C S x y/\M7 C S x y<21600000:=by
 have h:=Y4 C S (J6 x y) (J8 x y)
 have q:bK x y<=3:=by
   unfold bK;repeat' split
   all_goals omega
 unfold M7
 omega
theorem rZ {C S:Nat->Nat} {x y:Int} (h1:0<x) (h2:0<=y):M7 C S x y=kS C S x y:=by simp [M7,bK,J6,J8,h1,h2]
theorem yT {C S:Nat->Nat} {x y:Int} (h1:0<y) (h2:x<=0):M7 C S x y=5400000+kS C S y (-x):=by
 have a:¬(0<x/\0<=y):=by omega
 simp only [M7,bK,J6,J8,if_neg a,if_pos (show 0<y/\x<=0 from ⟨h1,h2⟩)]
 omega
theorem BZ {C S:Nat->Nat} {x y:Int} (h1:x<0) (h2:y<=0):M7 C S x y=10800000+kS C S (-x) (-y):=by
 have a:¬(0<x/\0<=y):=by omega
 have b:¬(0<y/\x<=0):=by omega
 simp only [M7,bK,J6,J8,if_neg a,if_neg b,if_pos (show x<0/\y<=0 from ⟨h1,h2⟩)]
 omega
theorem xR {C S:Nat->Nat} {x y:Int} (h1:y<0) (h2:0<=x):M7 C S x y=16200000+kS C S (-y) x:=by
 have a:¬(0<x/\0<=y):=by omega
 have b:¬(0<y/\x<=0):=by omega
 have c:¬(x<0/\y<=0):=by omega
 simp only [M7,bK,J6,J8,if_neg a,if_neg b,if_neg c]
 omega
def cM (px py qx qy:Int):Prop:=py*qx<=px*qy
theorem a1u {a b:Int} (h:a<=0) (k:0<=b):a*b<=0:=Int.mul_nonpos_of_nonpos_of_nonneg h k
def TN (C S:Nat->Nat) (x y:Int):Int:=if 0<=y then M7 C S x y+21600000 else M7 C S x y
theorem nC {C S:Nat->Nat} {px py qx qy:Int} (hp:0<px) (hq:0<qx) (h:cM px py qx qy):TN C S px py<=TN C S qx qy:=by
 unfold TN
 have bp:=eZ C S px py
 have bq:=eZ C S qx qy
 unfold cM at h
 by_cases hp2:0<=py
 ·by_cases hq2:0<=qy
  ·rw [if_pos hp2,if_pos hq2,rZ hp hp2,rZ hq hq2]
   have:=aI (C:=C) (S:=S) hp (by omega:0<=qx) h
   omega
  ·have a:0<=py*qx:=Int.mul_nonneg hp2 (by omega)
   have b:px*qy<0:=Int.mul_neg_of_pos_of_neg hp (by omega)
   omega
 ·by_cases hq2:0<=qy
  ·rw [if_neg hp2,if_pos hq2];omega
  ·rw [if_neg hp2,if_neg hq2,xR (by omega) (by omega),xR (by omega) (by omega)]
   have:=aI (C:=C) (S:=S) (x:= -py) (y:=px) (x':= -qy) (y':=qx) (by omega) (by omega) (by rw [Int.mul_neg,Int.neg_mul];omega)
   omega
theorem rL {C S:Nat->Nat} {px py qx qy:Int} (hp:px<0) (hq:qx<0) (h:cM px py qx qy):M7 C S px py<=M7 C S qx qy:=by
 unfold cM at h
 by_cases hp2:0<py
 ·by_cases hq2:0<qy
  ·rw [yT hp2 (by omega),yT hq2 (by omega)]
   have:=aI (C:=C) (S:=S) (x:=py) (y:= -px) (x':=qy) (y':= -qx) (by omega) (by omega) (by rw [Int.neg_mul,Int.mul_neg];omega)
   omega
  ·rw [yT hp2 (by omega),BZ hq (by omega)]
   have:=Y4 C S py (-px)
   omega
 ·by_cases hq2:0<qy
  ·have a:px*qy<0:=Int.mul_neg_of_neg_of_pos hp hq2
   have b:0<=py*qx:=Int.mul_nonneg_of_nonpos_of_nonpos (by omega) (by omega)
   omega
  ·rw [BZ hp (by omega),BZ hq (by omega)]
   have:=aI (C:=C) (S:=S) (x:= -px) (y:= -py) (x':= -qx) (y':= -qy) (by omega) (by omega) (by rw [Int.neg_mul_neg,Int.neg_mul_neg];exact h)
   omega
theorem DS {C S:Nat->Nat} {px py qx qy:Int} (hp:0<py) (hq:0<qy) (h:cM px py qx qy):M7 C S px py<=M7 C S qx qy:=by
 unfold cM at h
 by_cases hp2:0<px
 ·by_cases hq2:0<qx
  ·rw [rZ hp2 (by omega),rZ hq2 (by omega)]
   have:=aI (C:=C) (S:=S) hp2 (by omega:0<=qx) h
   omega
  ·rw [rZ hp2 (by omega),yT hq (by omega)]
   have:=Y4 C S px py
   omega
 ·by_cases hq2:0<qx
  ·have a:px*qy<=0:=a1u (by omega) (by omega)
   have b:0<py*qx:=Int.mul_pos hp hq2
   omega
  ·rw [yT hp (by omega),yT hq (by omega)]
   have:=aI (C:=C) (S:=S) (x:=py) (y:= -px) (x':=qy) (y':= -qx) (by omega) (by omega) (by rw [Int.neg_mul,Int.mul_neg];omega)
   omega
theorem BN {C S:Nat->Nat} {px py qx qy:Int} (hp:py<0) (hq:qy<0) (h:cM px py qx qy):M7 C S px py<=M7 C S qx qy:=by
 unfold cM at h
 by_cases hp2:0<=px
 ·by_cases hq2:0<=qx
  ·rw [xR hp hp2,xR hq hq2]
   have:=aI (C:=C) (S:=S) (x:= -py) (y:=px) (x':= -qy) (y':=qx) (by omega) (by omega) (by rw [Int.mul_neg,Int.neg_mul];omega)
   omega
  ·have a:px*qy<=0:=Int.mul_nonpos_of_nonneg_of_nonpos hp2 (by omega)
   have b:0<py*qx:=Int.mul_pos_of_neg_of_neg hp (by omega)
   omega
 ·by_cases hq2:0<=qx
  ·rw [BZ (by omega) (by omega),xR hq hq2]
   have:=Y4 C S (-px) (-py)
   omega
  ·rw [BZ (by omega) (by omega),BZ (by omega) (by omega)]
   have:=aI (C:=C) (S:=S) (x:= -px) (y:= -py) (x':= -qx) (y':= -qy) (by omega) (by omega) (by rw [Int.neg_mul_neg,Int.neg_mul_neg];exact h)
   omega
theorem a0A {C S:Nat->Nat} {px py dx dy rx ry:Int} (h:(0<px/\0<dx/\0<rx)\/(px<0/\dx<0/\rx<0)\/(0<py/\0<dy/\0<ry)\/(py<0/\dy<0/\ry<0)) (h1:cM px py dx dy) (h2:cM dx dy rx ry):
  (M7 C S dx dy-M7 C S px py)%21600000<=(if M7 C S rx ry<M7 C S px py then M7 C S rx ry+21600000 else M7 C S rx ry)-M7 C S px py:=by
 have bp:=eZ C S px py
 have bd:=eZ C S dx dy
 have br:=eZ C S rx ry
 rcases h with ⟨a,b,c⟩|⟨a,b,c⟩|⟨a,b,c⟩|⟨a,b,c⟩
 ·have k1:=nC (C:=C) (S:=S) a b h1
  have k2:=nC (C:=C) (S:=S) b c h2
  unfold TN at k1 k2
  have qp:py<0->16200000<=M7 C S px py:=fun h=>by rw [xR h (by omega)];omega
  have qd:dy<0->16200000<=M7 C S dx dy:=fun h=>by rw [xR h (by omega)];omega
  have qr:ry<0->16200000<=M7 C S rx ry:=fun h=>by rw [xR h (by omega)];omega
  have sp:0<=py->M7 C S px py<5400000:=fun h=>by rw [rZ a h];have:=Y4 C S px py;omega
  have sd:0<=dy->M7 C S dx dy<5400000:=fun h=>by rw [rZ b h];have:=Y4 C S dx dy;omega
  have sr:0<=ry->M7 C S rx ry<5400000:=fun h=>by rw [rZ c h];have:=Y4 C S rx ry;omega
  split at k1<;>split at k1<;>split at k2<;>split<;>omega
 ·have k1:=rL (C:=C) (S:=S) a b h1
  have k2:=rL (C:=C) (S:=S) b c h2
  split<;>omega
 ·have k1:=DS (C:=C) (S:=S) a b h1
  have k2:=DS (C:=C) (S:=S) b c h2
  split<;>omega
 ·have k1:=BN (C:=C) (S:=S) a b h1
  have k2:=BN (C:=C) (S:=S) b c h2
  split<;>omega
def hf (i:Nat) (x y:Int):Int:=match i with|0=>x|1=> -x|2=>y|_=> -y
theorem sO (i:Nat) {px py qx qy rx ry:Int} (hp:0<hf i px py) (hq:0<hf i qx qy) (hr:0<hf i rx ry) (h1:cM px py qx qy) (h2:cM qx qy rx ry):cM px py rx ry:=by
 unfold cM at*
 have a:0<=hf i px py*(qx*ry-qy*rx):=Int.mul_nonneg (by omega) (by omega)
 have b:0<=hf i rx ry*(px*qy-py*qx):=Int.mul_nonneg (by omega) (by omega)
 have c:hf i qx qy*(px*ry-py*rx)=hf i px py*(qx*ry-qy*rx)+hf i rx ry*(px*qy-py*qx):=by
  unfold hf
  split<;>simp only [Int.mul_sub,Int.neg_mul]<;>simp only [Int.mul_comm,Int.mul_left_comm]<;>omega
 have d:0<=px*ry-py*rx:=by
  rcases Int.lt_or_le (px*ry-py*rx) 0 with h|h
  ·have:=Int.mul_neg_of_pos_of_neg hq h
   omega
  ·exact h
 omega
theorem sU {px py qx qy:Int} (h:¬cM px py qx qy):cM qx qy px py:=by
 unfold cM at*
 rw [Int.mul_comm qy px,Int.mul_comm qx py]
 omega
def iF (p q:Int×Int):Bool:=decide (p.2*q.1<=p.1*q.2)
theorem lA (p q:Int×Int):iF p q=true↔cM p.1 p.2 q.1 q.2:=by unfold iF cM;simp
def C7:List (Int×Int)->Int×Int->Int×Int
 |[],f=>f
 |c :: l,f=>C7 l (if iF c f then c else f)
def F8:List (Int×Int)->Int×Int->Int×Int
 |[],f=>f
 |c :: l,f=>F8 l (if iF f c then c else f)
theorem lY (x y:Int):cM x y x y:=by unfold cM;rw [Int.mul_comm y x];exact Int.le_refl _
theorem MM (i:Nat):∀(l:List (Int×Int)) (f:Int×Int) (S:List (Int×Int)),(∀c∈l,0<hf i c.1 c.2)->(∀c∈S,0<hf i c.1 c.2)->f∈S->(∀c∈S,cM f.1 f.2 c.1 c.2)->
  (C7 l f∈S\/C7 l f∈l)/\(∀c∈S,cM (C7 l f).1 (C7 l f).2 c.1 c.2)/\∀c∈l,cM (C7 l f).1 (C7 l f).2 c.1 c.2:=by
 intro l
 induction l with
 |nil=>intro f S _ _ hf hS;exact ⟨.inl hf,hS,fun c h=>by cases h⟩
 |cons c l ih=>
  intro f S hl hSp hfS hS
  have hc:=hl c (by simp)
  have key:∀g:Int×Int,(g=c\/g=f)->(∀x∈S,cM g.1 g.2 x.1 x.2)->cM g.1 g.2 c.1 c.2->(C7 l g∈S\/C7 l g∈c :: l)/\(∀c∈S,cM (C7 l g).1 (C7 l g).2 c.1 c.2)/\∀x∈c :: l,cM (C7 l g).1 (C7 l g).2 x.1 x.2:=by
   intro g hg h1 h2
   obtain ⟨a,b,d⟩:=ih g (c :: S) (fun x hx=>hl x (by simp [hx])) (fun x hx=>by rcases List.mem_cons.1 hx with rfl|hx;exact hc;exact hSp x hx) (by rcases hg with rfl|rfl;simp;simp [hfS]) (fun x hx=>by rcases List.mem_cons.1 hx with rfl|hx;exact h2;exact h1 x hx)
   refine ⟨?_,fun x hx=>b x (by simp [hx]),fun x hx=> ?_⟩
   ·rcases a with a|a
    ·rcases List.mem_cons.1 a with a|a
     ·exact .inr (by rw [a];simp)
     ·exact .inl a
    ·exact .inr (by simp [a])
   ·rcases List.mem_cons.1 hx with rfl|hx
    ·exact b x (by simp)
    ·exact d x hx
  unfold C7
  by_cases hb:iF c f=true
  ·rw [if_pos hb]
   have hb':=(lA c f).1 hb
   exact key c (.inl rfl) (fun x hx=>sO i hc (hSp f hfS) (hSp x hx) hb' (hS x hx)) (lY _ _)
  ·rw [if_neg hb]
   exact key f (.inr rfl) hS (sU fun h=>hb ((lA c f).2 h))
theorem QF (i:Nat):∀(l:List (Int×Int)) (f:Int×Int) (S:List (Int×Int)),(∀c∈l,0<hf i c.1 c.2)->(∀c∈S,0<hf i c.1 c.2)->f∈S->(∀c∈S,cM c.1 c.2 f.1 f.2)->
  (F8 l f∈S\/F8 l f∈l)/\(∀c∈S,cM c.1 c.2 (F8 l f).1 (F8 l f).2)/\∀c∈l,cM c.1 c.2 (F8 l f).1 (F8 l f).2:=by
 intro l
 induction l with
 |nil=>intro f S _ _ hf hS;exact ⟨.inl hf,hS,fun c h=>by cases h⟩
 |cons c l ih=>
  intro f S hl hSp hfS hS
  have hc:=hl c (by simp)
  have key:∀g:Int×Int,(g=c\/g=f)->(∀x∈S,cM x.1 x.2 g.1 g.2)->cM c.1 c.2 g.1 g.2->(F8 l g∈S\/F8 l g∈c :: l)/\(∀c∈S,cM c.1 c.2 (F8 l g).1 (F8 l g).2)/\∀x∈c :: l,cM x.1 x.2 (F8 l g).1 (F8 l g).2:=by
   intro g hg h1 h2
   obtain ⟨a,b,d⟩:=ih g (c :: S) (fun x hx=>hl x (by simp [hx])) (fun x hx=>by rcases List.mem_cons.1 hx with rfl|hx;exact hc;exact hSp x hx) (by rcases hg with rfl|rfl;simp;simp [hfS]) (fun x hx=>by rcases List.mem_cons.1 hx with rfl|hx;exact h2;exact h1 x hx)
   refine ⟨?_,fun x hx=>b x (by simp [hx]),fun x hx=> ?_⟩
   ·rcases a with a|a
    ·rcases List.mem_cons.1 a with a|a
     ·exact .inr (by rw [a];simp)
     ·exact .inl a
    ·exact .inr (by simp [a])
   ·rcases List.mem_cons.1 hx with rfl|hx
    ·exact b x (by simp)
    ·exact d x hx
  unfold F8
  by_cases hb:iF f c=true
  ·rw [if_pos hb]
   have hb':=(lA f c).1 hb
   exact key c (.inl rfl) (fun x hx=>sO i (hSp x hx) (hSp f hfS) hc (hS x hx) hb') (lY _ _)
  ·rw [if_neg hb]
   exact key f (.inr rfl) hS (sU fun h=>hb ((lA f c).2 h))
def o9 (xl xh yl yh:Int):List (Int×Int):=[(xl,yl),(xl,yh),(xh,yl),(xh,yh)]
def B9 (xl xh yl yh:Int):Int×Int:=C7 (o9 xl xh yl yh) (xl,yl)
def D6 (xl xh yl yh:Int):Int×Int:=F8 (o9 xl xh yl yh) (xl,yl)
theorem yJ {a b xl xh yl yh s t dx dy:Int} (hs:0<s) (ht:0<t) (h1:s*xl<=t*dx) (h2:t*dx<=s*xh) (h3:s*yl<=t*dy) (h4:t*dy<=s*yh)
  (c1:0<=a*xl+b*yl) (c2:0<=a*xl+b*yh) (c3:0<=a*xh+b*yl) (c4:0<=a*xh+b*yh):0<=a*dx+b*dy:=by
 have mono:∀{c u v:Int},0<=c->u<=v->c*u<=c*v:=fun h k=>Int.mul_le_mul_of_nonneg_left k h
 have anti:∀{c u v:Int},c<=0->u<=v->c*v<=c*u:=fun h k=>Int.mul_le_mul_of_nonpos_left h k
 have e:∀u v:Int,a*(s*u)+b*(s*v)=s*(a*u+b*v):=fun u v=>by
  rw [Int.mul_add]
  simp only [Int.mul_left_comm]
 have k:0<=a*(t*dx)+b*(t*dy):=by
  rcases Int.lt_or_le a 0 with ha|ha<;>rcases Int.lt_or_le b 0 with hb|hb
  ·have p:=anti (Int.le_of_lt ha) h2;have q:=anti (Int.le_of_lt hb) h4
   have r:=Int.mul_nonneg (Int.le_of_lt hs) c4;have:=e xh yh;omega
  ·have p:=anti (Int.le_of_lt ha) h2;have q:=mono hb h3
   have r:=Int.mul_nonneg (Int.le_of_lt hs) c3;have:=e xh yl;omega
  ·have p:=mono ha h1;have q:=anti (Int.le_of_lt hb) h4
   have r:=Int.mul_nonneg (Int.le_of_lt hs) c2;have:=e xl yh;omega
  ·have p:=mono ha h1;have q:=mono hb h3
   have r:=Int.mul_nonneg (Int.le_of_lt hs) c1;have:=e xl yl;omega
 have f:a*(t*dx)+b*(t*dy)=t*(a*dx+b*dy):=by
  rw [Int.mul_add]
  simp only [Int.mul_left_comm]
 rw [f] at k
 rcases Int.lt_or_le (a*dx+b*dy) 0 with h|h
 ·have:=Int.mul_neg_of_pos_of_neg ht h
  omega
 ·exact h
def jW (C S:Nat->Nat) (xl xh yl yh:Int):Int:=
 if M7 C S (D6 xl xh yl yh).1 (D6 xl xh yl yh).2<M7 C S (B9 xl xh yl yh).1 (B9 xl xh yl yh).2 then M7 C S (D6 xl xh yl yh).1 (D6 xl xh yl yh).2+21600000 else M7 C S (D6 xl xh yl yh).1 (D6 xl xh yl yh).2
theorem GT {xl xh yl yh s t dx dy:Int} (hx:xl<=xh) (hy:yl<=yh) (ho:¬(xl<=0/\0<=xh/\yl<=0/\0<=yh)) (hs:0<s) (ht:0<t) (h1:s*xl<=t*dx) (h2:t*dx<=s*xh) (h3:s*yl<=t*dy) (h4:t*dy<=s*yh):
  ∃i,0<hf i (B9 xl xh yl yh).1 (B9 xl xh yl yh).2/\0<hf i dx dy/\0<hf i (D6 xl xh yl yh).1 (D6 xl xh yl yh).2/\cM (B9 xl xh yl yh).1 (B9 xl xh yl yh).2 dx dy/\cM dx dy (D6 xl xh yl yh).1 (D6 xl xh yl yh).2/\B9 xl xh yl yh∈o9 xl xh yl yh/\D6 xl xh yl yh∈o9 xl xh yl yh:=by
 obtain ⟨i,hi⟩:∃i,∀c∈o9 xl xh yl yh,0<hf i c.1 c.2:=by
  have:0<xl\/xh<0\/0<yl\/yh<0:=by omega
  rcases this with h|h|h|h
  ·exact ⟨0,by intro c hc;simp [o9] at hc;unfold hf;rcases hc with rfl|rfl|rfl|rfl<;>simp only<;>omega⟩
  ·exact ⟨1,by intro c hc;simp [o9] at hc;unfold hf;rcases hc with rfl|rfl|rfl|rfl<;>simp only<;>omega⟩
  ·exact ⟨2,by intro c hc;simp [o9] at hc;unfold hf;rcases hc with rfl|rfl|rfl|rfl<;>simp only<;>omega⟩
  ·exact ⟨3,by intro c hc;simp [o9] at hc;unfold hf;rcases hc with rfl|rfl|rfl|rfl<;>simp only<;>omega⟩
 have m1:(xl,yl)∈o9 xl xh yl yh:=by simp [o9]
 have m2:(xl,yh)∈o9 xl xh yl yh:=by simp [o9]
 have m3:(xh,yl)∈o9 xl xh yl yh:=by simp [o9]
 have m4:(xh,yh)∈o9 xl xh yl yh:=by simp [o9]
 have one:∀c∈[((xl,yl):Int×Int)],0<hf i c.1 c.2:=fun c hc=>by simp at hc;subst hc;exact hi _ m1
 obtain ⟨f1,_,f3⟩:=MM i (o9 xl xh yl yh) (xl,yl) [(xl,yl)] hi one (by simp) (fun c hc=>by simp at hc;subst hc;exact lY _ _)
 obtain ⟨l1,_,l3⟩:=QF i (o9 xl xh yl yh) (xl,yl) [(xl,yl)] hi one (by simp) (fun c hc=>by simp at hc;subst hc;exact lY _ _)
 have hF:0<hf i (B9 xl xh yl yh).1 (B9 xl xh yl yh).2:=by rcases f1 with h|h;exact one _ h;exact hi _ h
 have hL:0<hf i (D6 xl xh yl yh).1 (D6 xl xh yl yh).2:=by rcases l1 with h|h;exact one _ h;exact hi _ h
 have f3':∀c∈o9 xl xh yl yh,cM (B9 xl xh yl yh).1 (B9 xl xh yl yh).2 c.1 c.2:=f3
 have l3':∀c∈o9 xl xh yl yh,cM c.1 c.2 (D6 xl xh yl yh).1 (D6 xl xh yl yh).2:=l3
 have F:∀c∈o9 xl xh yl yh,0<=(-(B9 xl xh yl yh).2)*c.1+(B9 xl xh yl yh).1*c.2:=fun c hc=>by
  have:=f3' c hc;unfold cM at this;rw [Int.neg_mul];omega
 have L:∀c∈o9 xl xh yl yh,0<=(D6 xl xh yl yh).2*c.1+(-(D6 xl xh yl yh).1)*c.2:=fun c hc=>by
  have:=l3' c hc;unfold cM at this;rw [Int.neg_mul,Int.mul_comm (D6 xl xh yl yh).2,Int.mul_comm (D6 xl xh yl yh).1];omega
 have bF:=yJ hs ht h1 h2 h3 h4 (F _ m1) (F _ m2) (F _ m3) (F _ m4)
 have bL:=yJ hs ht h1 h2 h3 h4 (L _ m1) (L _ m2) (L _ m3) (L _ m4)
 have hd:0<hf i dx dy:=by
  have pos:∀{u v:Int},0<u->s*u<=t*v->0<v:=fun {u v} hu h=>by
   rcases Int.lt_or_le 0 v with k|k
   ·exact k
   ·have a:=Int.mul_pos hs hu
    have b:=Int.mul_nonpos_of_nonneg_of_nonpos (Int.le_of_lt ht) k
    omega
  have g1:=hi _ m1
  have g4:=hi _ m4
  unfold hf at*
  split at g1
  ·exact pos g1 h1
  ·simp only at g4 ⊢;exact pos (u:= -xh) (v:= -dx) g4 (by rw [Int.mul_neg,Int.mul_neg];omega)
  ·exact pos g1 h3
  ·simp only at g4 ⊢;exact pos (u:= -yh) (v:= -dy) g4 (by rw [Int.mul_neg,Int.mul_neg];omega)
 refine ⟨i,hF,hd,hL,?_,?_,?_,?_⟩
 ·unfold cM;rw [Int.neg_mul] at bF;omega
 ·unfold cM;rw [Int.neg_mul] at bL;rw [Int.mul_comm dy,Int.mul_comm dx];omega
 ·rcases f1 with h|h
  ·simp at h;rw [B9,h];exact m1
  ·exact h
 ·rcases l1 with h|h
  ·simp at h;rw [D6,h];exact m1
  ·exact h
theorem ZN (C S:Nat->Nat) {xl xh yl yh s t dx dy:Int} (hx:xl<=xh) (hy:yl<=yh) (ho:¬(xl<=0/\0<=xh/\yl<=0/\0<=yh)) (hs:0<s) (ht:0<t) (h1:s*xl<=t*dx) (h2:t*dx<=s*xh) (h3:s*yl<=t*dy) (h4:t*dy<=s*yh):
  (M7 C S dx dy-M7 C S (B9 xl xh yl yh).1 (B9 xl xh yl yh).2)%21600000<=jW C S xl xh yl yh-M7 C S (B9 xl xh yl yh).1 (B9 xl xh yl yh).2:=by
 obtain ⟨i,hF,hd,hL,bF,bL,_⟩:=GT hx hy ho hs ht h1 h2 h3 h4
 unfold jW
 refine a0A ?_ bF bL
 ·unfold hf at hF hL hd
  split at hF
  ·exact .inl ⟨hF,hd,hL⟩
  ·simp only at hL hd;exact .inr (.inl ⟨by omega,by omega,by omega⟩)
  ·simp only at hL hd;exact .inr (.inr (.inl ⟨hF,hd,hL⟩))
  ·rename_i n0 n1 n2
   split at hd
   ·exact absurd rfl n0
   ·exact absurd rfl n1
   ·exact absurd rfl n2
   ·split at hL
    ·exact absurd rfl n0
    ·exact absurd rfl n1
    ·exact absurd rfl n2
    ·exact .inr (.inr (.inr ⟨by omega,by omega,by omega⟩))
def N5 (C S:Nat->Nat) (x y:Int):Bool:=(decide (kS C S (J6 x y) (J8 x y)=0)&&decide (J8 x y=0))||(decide (kS C S (J6 x y) (J8 x y)=2700000)&&decide (J6 x y=J8 x y))
end Brg
open Brg Rot
theorem a0E (f:Nat->Bool):∀n lo hi,rR f n lo hi=lo\/f (rR f n lo hi)=true:=by
 intro n
 induction n with
 |zero=>intro lo hi;exact .inl rfl
 |succ n ih=>
  intro lo hi
  unfold rR
  split
  ·split
   ·rename_i h
    rcases ih ((lo+hi)/2) hi with k|k
    ·exact .inr (by rw [k];exact h)
    ·exact .inr k
   ·exact ih lo ((lo+hi)/2)
  ·exact .inl rfl
theorem a2g (f:Nat->Bool):∀n lo hi,lo<hi->hi-lo<=2^n->rR f n lo hi+1=hi\/f (rR f n lo hi+1)=false:=by
 intro n
 induction n with
 |zero=>intro lo hi h k;exact .inl (by unfold rR;omega)
 |succ n ih=>
  intro lo hi h k
  rw [Nat.pow_succ] at k
  unfold rR
  split
  ·split
   ·exact ih ((lo+hi)/2) hi (by omega) (by omega)
   ·rename_i g
    rcases ih lo ((lo+hi)/2) (by omega) (by omega) with j|j
    ·exact .inr (by rw [j];simpa using g)
    ·exact .inr j
  ·exact .inl (by omega)
theorem wC (C S:Nat->Nat) (x y:Int):kS C S x y=0\/(S (kS C S x y):Int)*x<=C (kS C S x y)*y:=by
 rcases a0E (cE C S x y) 23 0 5400000 with h|h
 ·exact .inl h
 ·exact .inr (of_decide_eq_true h)
theorem a1A (C S:Nat->Nat) (x y:Int):kS C S x y+1=5400000\/(C (kS C S x y+1):Int)*y<S (kS C S x y+1)*x:=by
 rcases a2g (cE C S x y) 23 0 5400000 (by decide) (by decide) with h|h
 ·exact .inl h
 ·exact .inr (Int.not_le.1 (of_decide_eq_false h))
def hU:Nat:=2^79
def rV (C S:Nat->Nat) (k:Nat):Prop:=∃N:Rat,0<N/\f9 (C k) (N*fR.c' (uW*(k:Int))) (N*(1/2^60))/\f9 (S k) (N*fR.s' (uW*(k:Int))) (N*(1/2^60))
theorem H5 {N X a e:Rat} (h:0<N) (k:f9 X (N*a) (N*e)):∃u,X=N*u/\f9 u a e:=by
 have d:N*(X/N)=X:=by rw [Rat.mul_comm];exact Rat.div_mul_cancel (by grind)
 refine ⟨X/N,d.symm,?_⟩
 unfold f9 at*
 rw [<-d] at k
 generalize X/N=u at*
 have k1:=b8 h (show 0<=N*(u-(a-e)) by grind)
 have k2:=b8 h (show 0<=N*((a+e)-u) by grind)
 constructor<;>grind
theorem ZB {u a e:Rat} (h:f9 u a e) (k: -1<=a/\a<=1) (he:e<=1): -2<=u/\u<=2:=by unfold f9 at h;constructor<;>grind
theorem D8 {u v a b e f:Rat} (hu:f9 u a e) (hv:f9 v b f) (ka: -1<=a/\a<=1) (kb: -1<=b/\b<=1) (hf:f<=1):f9 (u*v) (a*b) (2*e+f):=by
 have w:=ZB hv kb hf
 unfold f9 at*
 have p1:=A6 (a:=u-a) (b:=v) (e:=e) (f:=2) (by grind) (by grind) w.1 w.2
 have p2:=A6 (a:=a) (b:=v-b) (e:=1) (f:=f) ka.1 ka.2 (by grind) (by grind)
 constructor<;>grind
theorem nE {M R U X V Y u x v y e f:Rat} (M0:0<M) (R0:0<R) (hU:f9 U (M*u) (M*e)) (hX:f9 X (R*x) (R*f)) (hV:f9 V (M*v) (M*e)) (hY:f9 Y (R*y) (R*f)) (ku: -1<=u/\u<=1) (kx: -1<=x/\x<=1) (kv: -1<=v/\v<=1) (ky: -1<=y/\y<=1) (hf:f<=1)
  (h:U*X<=V*Y):u*x-v*y<=4*e+2*f:=by
 obtain ⟨u1,rfl,a⟩:=H5 M0 hU
 obtain ⟨x1,rfl,b⟩:=H5 R0 hX
 obtain ⟨v1,rfl,c⟩:=H5 M0 hV
 obtain ⟨y1,rfl,d⟩:=H5 R0 hY
 have p:=D8 a b ku kx hf
 have q:=D8 c d kv ky hf
 have MR:=Rat.mul_pos M0 R0
 have k:=b8 MR (show 0<=M*R*(v1*y1-u1*x1) by grind)
 unfold f9 at p q
 grind
theorem wJ (k:Nat) (hk:k<=80) (l h:Rat) (hl:l+1/2^128<=((iG k p0).2:Rat)/wV) (hh:((iG k p0).2:Rat)/wV+1/2^128<=h) (e:eK k<=1/2^128):l<=fR.s' ((2^k:Nat):Int)/\fR.s' ((2^k:Nat):Int)<=h:=by
 have a:=(after k hk).2
 rw [(fR.z_nat (2^k)).2]
 unfold f9 at a
 generalize (fR.C (2^k)).2=y at*
 generalize ((iG k p0).2:Rat)/wV=v at*
 generalize (1/2^128:Rat)=I at*
 generalize eK k=K at*
 constructor<;>grind
theorem PF:1/2^23<=fR.s' hU:=(wJ 79 (by decide) (1/2^23) 1 (by decide+kernel) (by decide+kernel) (by decide+kernel)).1
theorem a00 (b:Nat) (b0:0<b) (b1:b<=kQ) (d:Int) (h0:b<=d) (h1:d<=2*kQ-b):fR.s' b<=fR.s' d/\0<fR.s' b:=by
 obtain ⟨n,rfl⟩:∃n:Nat,d=n:=⟨d.toNat,by omega⟩
 have a:=fR.C_mono O9.1 O9.2 kQ X6 b (n-b) (by omega)
 have e:=fR.C_mono O9.1 O9.2 kQ X6 n (2*kQ-b-n) (by omega)
 rw [show b+(n-b)=n by omega] at a
 rw [show n+(2*kQ-b-n)=2*kQ-b by omega] at e
 have p:=fR.S_half O9.1 O9.2 kQ X6 n (by omega) (by omega)
 have q:=fR.S_half O9.1 O9.2 kQ X6 (2*kQ) (by omega) (by omega)
 have sh:=fR.S_half O9.1 O9.2 kQ X6 b b0 (by omega)
 have hc:=X6 b b1
 have z:=(fR.z_sum (2*kQ:Nat) (-(b:Int))).1
 have o:=fR.one n
 have oh:=fR.z_one b
 have bd:=(fR.z_bd (2*kQ:Nat)).1
 have zn:=fR.z_nat (2*kQ-b)
 rw [show ((2*kQ-b:Nat):Int)=(2*kQ:Nat)+ -(b:Int) by omega,z,(fR.z_neg _).1,(fR.z_neg _).2] at zn
 rw [<-zn.1] at e
 have z2:=fR.z_nat (2*kQ)
 rw [<-z2.2] at q
 rw [(fR.z_nat n).2]
 have e1:=fR.z_nat b
 rw [<-e1.1] at a hc
 rw [<-e1.2] at sh
 clear zn z2 e1 z h0 h1 b0 b1
 generalize (fR.C n).1=x at*
 generalize (fR.C n).2=y at*
 generalize fR.c' b=c at*
 generalize fR.s' b=s at*
 generalize fR.c' ((2*kQ:Nat):Int)=u at*
 generalize fR.s' ((2*kQ:Nat):Int)=v at*
 refine ⟨?_,sh⟩
 have t1:=Rat.mul_nonneg (Rat.le_of_lt q) (Rat.le_of_lt sh)
 have t2:=Rat.mul_nonneg (show 0<=u+1 by grind) (Rat.le_of_lt hc)
 have xx: -c<=x:=by grind
 have t3:=Rat.mul_nonneg (show 0<=c-x by grind) (show 0<=c+x by grind)
 apply Classical.byContradiction
 intro g
 have t4:=Rat.mul_pos (show 0<s-y by grind) (show 0<s+y by grind)
 grind
theorem aU (a b:Int):fR.s' (a-b)=fR.s' a*fR.c' b-fR.c' a*fR.s' b/\fR.c' (a-b)=fR.c' a*fR.c' b+fR.s' a*fR.s' b:=by
 have z:=fR.z_sum a (-b)
 rw [(fR.z_neg b).1,(fR.z_neg b).2] at z
 rw [show a-b=a+ -b by omega,z.1,z.2]
 constructor<;>grind
def qF:Int:=uW*5400000
theorem uT:f9 (fR.c' qF) 0 (1/2^60)/\f9 (fR.s' qF) 1 (1/2^60):=by
 have g:=cC 5400000 (by decide)
 unfold gN at g
 have i:=X9 5400000 (by omega) (by omega)
 rw [fJ,show (5400000:Int)-5400000=0 by rfl,lB] at i
 change f9 (2^128*fR.c' qF) (iC 5400000) _/\f9 (2^128*fR.s' qF) (iS 5400000) _ at g
 rw [i.1,i.2] at g
 have t:(0:Rat)<2^128:=by decide+kernel
 have e:(2:Rat)^55<=2^128*(1/2^60):=by decide+kernel
 constructor
 ·obtain ⟨u,h1,h2⟩:=H5 (N:=2^128) (X:=2^128*fR.c' qF) (a:=0) (e:=1/2^60) t (by
   have:=L5 g.1 e
   rw [Rat.mul_zero];exact this)
  have:fR.c' qF=u:=by
   generalize fR.c' qF=v at*
   have:=b8 t (show 0<=2^128*(v-u) by grind)
   have:=b8 t (show 0<=2^128*(u-v) by grind)
   grind
  rw [this];exact h2
 ·obtain ⟨u,h1,h2⟩:=H5 (N:=2^128) (X:=2^128*fR.s' qF) (a:=1) (e:=1/2^60) t (by
   have:=L5 g.2 e
   rw [Rat.mul_one];exact this)
  have:fR.s' qF=u:=by
   generalize fR.s' qF=v at*
   have:=b8 t (show 0<=2^128*(v-u) by grind)
   have:=b8 t (show 0<=2^128*(u-v) by grind)
   grind
  rw [this];exact h2
theorem a1h:(4:Rat)*(1/2^60)+2*(1/2^26)<=1/2^24/\(1:Rat)/2^26<=1/\(1/2^24:Rat)*2^23<1:=by decide+kernel
theorem jY (d:Int) (h0:hU<=d) (h1:d<=2*kQ-hU):1/2^24<fR.s' d:=by
 have a:=(a00 hU (by decide) (by decide) d h0 h1).1
 have b:=PF
 have n:(1:Rat)/2^24<1/2^23:=by decide+kernel
 generalize fR.s' d=x at*
 generalize fR.s' hU=y at*
 grind
theorem jX (z:Int):(uW:Int)*z=1208925819614629174706176*z:=by rw [show (uW:Int)=1208925819614629174706176 from rfl]
theorem a1Q {a b e f:Rat} (t:a-b<=e) (n:e<=f) (h:f<a-b):False:=by grind
theorem JY {a b c d e f:Rat} (t:a*b-c*d<=e) (n:e<=f) (h:f<b*a-d*c):False:=by grind
theorem TD {C S:Nat->Nat} (hd:∀k,k<=5400000->rV C S k) (x y:Int) (R:Rat) (m:Int) (R0:0<R) (hx:f9 x (R*fR.c' m) (R*(1/2^26))) (hy:f9 y (R*fR.s' m) (R*(1/2^26))) (m0: -hU<=m) (m1:m<=qF+hU):
  uW*(kS C S x y:Int)<=m+hU/\m<=uW*((kS C S x y:Int)+1)+hU:=by
 have hh:hU=2^79:=rfl
 have kk:kQ=5400000*2^80-2^40:=rfl
 have uu:uW=2^80:=rfl
 have qq:qF=uW*5400000:=rfl
 have lt:=Y4 C S x y
 have n1:=a1h
 have bm:=fR.z_bd m
 have yes:=wC C S x y
 have no:=a1A C S x y
 generalize kS C S x y=k at*
 have w1:=jX k
 have w2:=jX (k+1)
 have w3:=jX ((k+1:Nat):Int)
 constructor
 ·rcases yes with h|h
  ·subst h;omega
  ·apply Classical.byContradiction
   intro g
   obtain ⟨M,M0,hC,hS⟩:=hd k (by omega)
   have bk:=fR.z_bd (uW*(k:Int))
   have t:=nE M0 R0 hS hx hC hy bk.2 bm.1 bk.1 bm.2 n1.2.1 (by have:=Rat.intCast_le_intCast.2 h;push_cast at this;exact this)
   have f:=jY (uW*(k:Int)-m) (by omega) (by omega)
   rw [(aU _ _).1] at f
   exact a1Q t n1.1 f
 ·rcases no with h|h
  ·omega
  ·apply Classical.byContradiction
   intro g
   obtain ⟨M,M0,hC,hS⟩:=hd (k+1) (by omega)
   have bk:=fR.z_bd (uW*((k+1:Nat):Int))
   have t:=nE M0 R0 hC hy hS hx bk.1 bm.2 bk.2 bm.1 n1.2.1 (by have:=Rat.intCast_le_intCast.2 (Int.le_of_lt h);push_cast at this;exact this)
   have f:=jY (m-uW*((k+1:Nat):Int)) (by omega) (by omega)
   rw [(aU _ _).1] at f
   exact JY t n1.1 f
theorem KR {C S:Nat->Nat} (hd:∀k,k<=5400000->rV C S k) (x y:Int) (R:Rat) (m:Int) (k:Nat) (R0:0<R) (hx:f9 x (R*fR.c' m) (R*(1/2^26))) (hy:f9 y (R*fR.s' m) (R*(1/2^26))) (_m0: -hU<=m) (m1:m<=qF+hU) (hk:k<=5400000)
  (h:(C k:Int)*y<=S k*x):m<=uW*(k:Int)+hU:=by
 have hh:hU=2^79:=rfl
 have kk:kQ=5400000*2^80-2^40:=rfl
 have qq:qF=uW*5400000:=rfl
 have n1:=a1h
 have bm:=fR.z_bd m
 have w1:=jX k
 have w2:=jX 5400000
 apply Classical.byContradiction
 intro g
 obtain ⟨M,M0,hC,hS⟩:=hd k hk
 have bk:=fR.z_bd (uW*(k:Int))
 have t:=nE M0 R0 hC hy hS hx bk.1 bm.2 bk.2 bm.1 n1.2.1 (by have:=Rat.intCast_le_intCast.2 h;push_cast at this;exact this)
 have f:=jY (m-uW*(k:Int)) (by omega) (by omega)
 rw [(aU _ _).1] at f
 exact JY t n1.1 f
theorem a3h (a b c d:Rat):c*b+a*d=a*d - -c*b:=by grind
theorem a2T (a b c d:Rat):a*b-c*d= -c*d - -a*b:=by grind
theorem BE {T c s u v a R e:Rat} (R0:0<R) (hu:f9 u 0 (1/2^60)) (hv:f9 v 1 (1/2^60)) (kc: -1<=c/\c<=1) (ks: -1<=s/\s<=1) (ha:f9 a (R*c) (R*(1/2^27))) (he:e=c*v-s*u) (hT:T=(1/2^26:Rat)):f9 a (R*e) (R*T):=by
 have n:(1:Rat)/2^27+2*(1/2^60)<=1/2^26:=by decide+kernel
 rw [he,hT]
 obtain ⟨x,rfl,h⟩:=H5 R0 ha
 unfold f9 at*
 have p:=A6 (a:=s) (b:=u) (e:=1) (f:=1/2^60) ks.1 ks.2 (by grind) (by grind)
 have q:=A6 (a:=c) (b:=v-1) (e:=1) (f:=1/2^60) kc.1 kc.2 (by grind) (by grind)
 generalize (1/2^60:Rat)=E at*
 generalize (1/2^27:Rat)=F at*
 generalize (1/2^26:Rat)=G at*
 have a1:=Rat.mul_nonneg (Rat.le_of_lt R0) (show 0<=x-(c*v-s*u-G) by grind)
 have a2:=Rat.mul_nonneg (Rat.le_of_lt R0) (show 0<=(c*v-s*u+G)-x by grind)
 constructor<;>grind
theorem GK {a:Rat} (h: -1<=a/\a<=1): -1<= -a/\ -a<=1:=by constructor<;>grind
theorem UE {a b e:Rat} (h:f9 a b e):f9 (-a) (-b) e:=by unfold f9 at*;constructor<;>grind
theorem qY {X R a e f:Rat} (R0:0<R) (h:f9 X (R*a) (R*e)) (k:e<=f):f9 X (R*a) (R*f):=L5 h (Rat.mul_le_mul_of_nonneg_left k (Rat.le_of_lt R0))
theorem a2D (m:Int) (h0:0<=m) (h1:m<=2*kQ) (R X:Rat) (R0:0<R) (X0:X<=0) (h:f9 X (R*fR.c' m) (R*(1/2^27))):qF-hU<=m:=by
 have hh:hU=2^79:=rfl
 have kk:kQ=5400000*2^80-2^40:=rfl
 have qq:qF=2^80*5400000:=rfl
 apply Classical.byContradiction
 intro g
 obtain ⟨x,rfl,k⟩:=H5 R0 h
 have x0:x<=0:=by
  apply Classical.byContradiction
  intro t
  have:=Rat.mul_pos R0 (show 0<x by grind)
  grind
 obtain ⟨n,rfl⟩:∃n:Nat,m=n:=⟨m.toNat,by omega⟩
 have a:=fR.C_mono O9.1 O9.2 kQ X6 n ((qF-hU).toNat-n) (by omega)
 rw [show n+((qF-hU).toNat-n)=(qF-hU).toNat by omega] at a
 have z:=(fR.z_nat (qF-hU).toNat).1
 rw [show (((qF-hU).toNat:Nat):Int)=qF-hU by omega] at z
 rw [<-z,(aU _ _).2,<-(fR.z_nat n).1] at a
 have q:=uT
 have n1:(1:Rat)/2^60+1/2^60+1/2^27<1/2^24:=by decide+kernel
 have f:=jY hU (Int.le_refl _) (by omega)
 have bh:=fR.z_bd hU
 unfold f9 at k q
 generalize fR.c' qF=a1 at*
 generalize fR.s' qF=a2 at*
 generalize fR.c' hU=a3 at*
 generalize fR.s' hU=a4 at*
 generalize fR.c' n=a5 at*
 generalize (1/2^60:Rat)=E at*
 generalize (1/2^27:Rat)=F at*
 generalize (1/2^24:Rat)=G at*
 clear hh kk qq z g h
 have p1:=A6 (a:=a1) (b:=a3) (e:=E) (f:=1) (by grind) (by grind) bh.1.1 bh.1.2
 have p2:=A6 (a:=a2-1) (b:=a4) (e:=E) (f:=1) (by grind) (by grind) bh.2.1 bh.2.2
 grind
theorem a12 (m:Int) (_h0:0<=m) (h1:m<=2*kQ) (R X:Rat) (R0:0<R) (X0:0<=X) (h:f9 X (R*fR.c' m) (R*(1/2^27))):m<=qF+hU:=by
 have hh:hU=2^79:=rfl
 have kk:kQ=5400000*2^80-2^40:=rfl
 have qq:qF=2^80*5400000:=rfl
 apply Classical.byContradiction
 intro g
 obtain ⟨x,rfl,k⟩:=H5 R0 h
 have x0:=b8 R0 X0
 obtain ⟨n,rfl⟩:∃n:Nat,m=n:=⟨m.toNat,by omega⟩
 have a:=fR.C_mono O9.1 O9.2 kQ X6 (qF+hU).toNat (n-(qF+hU).toNat) (by omega)
 rw [show (qF+hU).toNat+(n-(qF+hU).toNat)=n by omega] at a
 have z:=(fR.z_nat (qF+hU).toNat).1
 rw [show (((qF+hU).toNat:Nat):Int)=qF+hU by omega] at z
 rw [<-z,(fR.z_sum _ _).1,<-(fR.z_nat n).1] at a
 have q:=uT
 have n1:(1:Rat)/2^60+1/2^60+1/2^27<1/2^24:=by decide+kernel
 have f:=jY hU (Int.le_refl _) (by omega)
 have bh:=fR.z_bd hU
 unfold f9 at k q
 generalize fR.c' qF=a1 at*
 generalize fR.s' qF=a2 at*
 generalize fR.c' hU=a3 at*
 generalize fR.s' hU=a4 at*
 generalize fR.c' n=a5 at*
 generalize (1/2^60:Rat)=E at*
 generalize (1/2^27:Rat)=F at*
 generalize (1/2^24:Rat)=G at*
 clear hh kk qq z g h
 have p1:=A6 (a:=a1) (b:=a3) (e:=E) (f:=1) (by grind) (by grind) bh.1.1 bh.1.2
 have p2:=A6 (a:=a2-1) (b:=a4) (e:=E) (f:=1) (by grind) (by grind) bh.2.1 bh.2.2
 grind
theorem xS {C S:Nat->Nat} (hd:∀k,k<=5400000->rV C S k) (x:Int) (x0:0<x):kS C S x 0=0:=by
 have lt:=Y4 C S x 0
 rcases wC C S x 0 with h|h
 ·exact h
 ·generalize kS C S x 0=k at*
  apply Classical.byContradiction
  intro g
  have hh:hU=2^79:=rfl
  have kk:kQ=5400000*2^80-2^40:=rfl
  have uu:uW=2^80:=rfl
  obtain ⟨M,M0,_,hS⟩:=hd k (by omega)
  obtain ⟨u,e,hu⟩:=H5 M0 hS
  have w1:=jX k
  have f:=jY (uW*(k:Int)) (by omega) (by omega)
  have n1:(1:Rat)/2^60<1/2^24:=by decide+kernel
  unfold f9 at hu
  generalize fR.s' (uW*(k:Int))=v at*
  generalize (1/2^60:Rat)=E at*
  generalize (1/2^24:Rat)=G at*
  have:=Rat.mul_pos M0 (show 0<u by grind)
  have sk:0<S k:=by
   apply Nat.pos_of_ne_zero
   intro z
   rw [z] at e
   have:((0:Nat):Rat)=0:=rfl
   grind
  have:=Int.mul_pos (show (0:Int)<S k by omega) x0
  omega
theorem XP {C S:Nat->Nat} (hd:∀k,k<=5400000->rV C S k) (x y:Int) (R:Rat) (m:Int) (R0:0<R) (hx:f9 x (R*fR.c' m) (R*(1/2^27))) (hy:f9 y (R*fR.s' m) (R*(1/2^27))) (y0:0<=y) (no:¬(x=0/\y=0)) (m0:0<=m) (m1:m<=2*kQ):
  (∃d:Int,0<=d/\d<=1/\M7 C S x y=d*5400000+kS C S (J6 x y) (J8 x y)/\f9 (J6 x y) (R*fR.c' (m-d*qF)) (R*(1/2^26))/\f9 (J8 x y) (R*fR.s' (m-d*qF)) (R*(1/2^26))/\ -hU<=m-d*qF/\m-d*qF<=qF+hU)\/
  (M7 C S x y=10800000/\2*kQ-hU<=m):=by
 have hh:hU=2^79:=rfl
 have kk:kQ=5400000*2^80-2^40:=rfl
 have qq:qF=1208925819614629174706176*5400000:=jX 5400000
 have n27:(1:Rat)/2^27<=1/2^26:=by decide+kernel
 have q:=uT
 have bm:=fR.z_bd m
 have yr:(0:Rat)<=y:=by have:=Rat.intCast_le_intCast.2 y0;exact this
 by_cases a:0<x
 ·have h:=a12 m m0 m1 R x R0 (by have:=Rat.intCast_le_intCast.2 (Int.le_of_lt a);exact this) hx
  refine .inl ⟨0,by omega,by omega,?_,?_,?_,by omega,by omega⟩
  ·rw [rZ a y0];simp [J6,J8,a,y0]
  ·rw [show m-0*qF=m by omega,show J6 x y=x by simp [J6,a,y0]];exact qY R0 hx n27
  ·rw [show m-0*qF=m by omega,show J8 x y=y by simp [J8,a,y0]];exact qY R0 hy n27
 ·have xr:(x:Rat)<=0:=by have:=Rat.intCast_le_intCast.2 (show x<=0 by omega);exact this
  have ml:=a2D m m0 m1 R x R0 xr hx
  have sq:=aU m qF
  by_cases b:0<y
  ·have e:m-1*qF=m-qF:=by omega
   refine .inl ⟨1,by omega,by omega,?_,?_,?_,by omega,by omega⟩
   ·rw [yT b (by omega)];simp [J6,J8,a,b,show x<=0 by omega]
   ·rw [e,show J6 x y=y by simp [J6,a,b,show x<=0 by omega],show fR.c' (m-qF)=fR.s' m*fR.s' qF - -fR.c' m*fR.c' qF by rw [sq.2];exact a3h _ _ _ _]
    exact BE R0 q.1 q.2 bm.2 (GK bm.1) hy rfl rfl
   ·rw [e,show J8 x y= -x by simp [J8,a,b,show x<=0 by omega],show fR.s' (m-qF)= -fR.c' m*fR.s' qF - -fR.s' m*fR.c' qF by rw [sq.1];exact a2T _ _ _ _]
    have h:=UE hx
    rw [<-Rat.mul_neg] at h
    have:=BE (e:= -fR.c' m*fR.s' qF - -fR.s' m*fR.c' qF) R0 q.1 q.2 (GK bm.1) (GK bm.2) h rfl rfl
    push_cast
    exact this
  ·have y0':y=0:=by omega
   subst y0'
   refine .inr ⟨by rw [BZ (by omega) (by omega),show -(0:Int)=0 from rfl,xS hd (-x) (by omega)];rfl,?_⟩
   apply Classical.byContradiction
   intro g
   obtain ⟨u,e,hu⟩:=H5 R0 hy
   have u0:u=0:=by
    apply Classical.byContradiction
    intro t
    rcases Rat.le_total (a:=0) (b:=u) with k|k
    ·have:=Rat.mul_pos R0 (show 0<u by grind);grind
    ·have:=Rat.mul_pos R0 (show 0< -u by grind);grind
   have f:=jY m (by omega) (by omega)
   have n1:(1:Rat)/2^27<1/2^24:=by decide+kernel
   unfold f9 at hu
   generalize fR.s' m=v at*
   generalize (1/2^27:Rat)=E at*
   generalize (1/2^24:Rat)=G at*
   grind
theorem OU {C S:Nat->Nat} (hd:∀k,k<=5400000->rV C S k) (x y:Int) (R:Rat) (m:Int) (R0:0<R) (hx:f9 x (R*fR.c' m) (R*(1/2^27))) (hy:f9 y (R*fR.s' m) (R*(1/2^27))) (y0:0<=y) (no:¬(x=0/\y=0)) (m0:0<=m) (m1:m<=2*kQ):
  uW*M7 C S x y<=m+hU+2^42/\m<=uW*(M7 C S x y+1)+hU/\(N5 C S x y=true->C 2700000=S 2700000->m<=uW*M7 C S x y+hU):=by
 have hh:hU=2^79:=rfl
 have kk:kQ=5400000*2^80-2^40:=rfl
 have qq:qF=1208925819614629174706176*5400000:=jX 5400000
 have w1:=jX (M7 C S x y)
 have w2:=jX (M7 C S x y+1)
 rcases XP hd x y R m R0 hx hy y0 no m0 m1 with ⟨d,d0,d1,ha,nx,ny,h0,h1⟩|⟨ha,h0⟩
 ·have l:=TD hd (J6 x y) (J8 x y) R (m-d*qF) R0 nx ny h0 h1
  have w3:=jX (kS C S (J6 x y) (J8 x y))
  have w4:=jX (kS C S (J6 x y) (J8 x y)+1)
  have dq:d*qF=1208925819614629174706176*(d*5400000):=by rw [qq];omega
  have lt:=Y4 C S (J6 x y) (J8 x y)
  refine ⟨by omega,by omega,fun ex ee=> ?_⟩
  have:=KR hd (J6 x y) (J8 x y) R (m-d*qF) (kS C S (J6 x y) (J8 x y)) R0 nx ny h0 h1 (by omega) (by
   unfold N5 at ex
   simp only [Bool.or_eq_true,Bool.and_eq_true,decide_eq_true_eq] at ex
   have rx:0<=J6 x y:=by
     unfold J6;repeat' split
     all_goals omega
   rcases ex with ⟨a,b⟩|⟨a,b⟩
   ·rw [b,Int.mul_zero];exact Int.mul_nonneg (by omega) rx
   ·rw [a,b,ee];exact Int.le_refl _)
  omega
 ·exact ⟨by omega,by omega,fun _ _=>by omega⟩
theorem ZU {C S:Nat->Nat} (hd:∀k,k<=5400000->rV C S k) (x y:Int) (y0:0<=y) (no:¬(x=0/\y=0)):M7 C S x y<=10800000:=by
 by_cases a:0<x
 ·rw [rZ a y0];have:=Y4 C S x y;omega
 ·by_cases b:0<y
  ·rw [yT b (by omega)];have:=Y4 C S y (-x);omega
  ·have y0':y=0:=by omega
   subst y0'
   rw [BZ (by omega) (by omega),show -(0:Int)=0 from rfl,xS hd (-x) (by omega)];decide
theorem QQ {C S:Nat->Nat} (i:Nat) {p q:Int×Int} (hp:0<hf i p.1 p.2) (hq:0<hf i q.1 q.2) (p0:0<=p.2) (q0:0<=q.2) (h:cM p.1 p.2 q.1 q.2):M7 C S p.1 p.2<=M7 C S q.1 q.2:=by
 unfold hf at hp hq
 split at hp
 ·simp only at hq
  have:=nC (C:=C) (S:=S) hp hq h
  unfold TN at this
  rw [if_pos p0,if_pos q0] at this
  omega
 ·simp only at hq;exact rL (by omega) (by omega) h
 ·exact DS hp hq h
 ·omega
theorem QG {C S:Nat->Nat} (i:Nat) (h1:C 2700000=S 2700000) (h2:0<C 2700000) {p q:Int×Int} (hp:0<hf i p.1 p.2) (hq:0<hf i q.1 q.2) (p0:0<=p.2) (q0:0<=q.2) (h:cM p.1 p.2 q.1 q.2) (e:M7 C S p.1 p.2=M7 C S q.1 q.2) (hx:N5 C S q.1 q.2=true):N5 C S p.1 p.2=true:=by
 obtain ⟨px,py⟩:=p
 obtain ⟨qx,qy⟩:=q
 simp only at*
 have lp:=Y4 C S (J6 px py) (J8 px py)
 have lq:=Y4 C S (J6 qx qy) (J8 qx qy)
 have ly:=wC C S (J6 px py) (J8 px py)
 have qd:bK px py=bK qx qy/\kS C S (J6 px py) (J8 px py)=kS C S (J6 qx qy) (J8 qx qy):=by unfold M7 at e;omega
 have pn:¬(px=0/\py=0):=fun ⟨a,b⟩=>by subst a b;unfold hf at hp;split at hp<;>omega
 have qn:¬(qx=0/\qy=0):=fun ⟨a,b⟩=>by subst a b;unfold hf at hq;split at hq<;>omega
 have cr:J8 px py*J6 qx qy<=J6 px py*J8 qx qy/\0<J6 qx qy/\0<=J8 px py:=by
  have q1:=qd.1
  unfold cM at h
  unfold bK at q1
  unfold J6 J8
  by_cases a:0<px/\0<=py
  ·rw [if_pos a] at q1
   by_cases b:0<qx/\0<=qy
   ·rw [if_pos a,if_pos b,if_pos a,if_pos b];exact ⟨h,by omega,by omega⟩
   ·rw [if_neg b] at q1;repeat' split at q1
    all_goals omega
  ·rw [if_neg a] at q1
   by_cases b:0<qx/\0<=qy
   ·rw [if_pos b] at q1;repeat' split at q1
    all_goals omega
   ·rw [if_neg b] at q1
    rw [if_neg a,if_neg b,if_neg a,if_neg b]
    by_cases c:0<py/\px<=0
    ·rw [if_pos c] at q1
     by_cases d:0<qy/\qx<=0
     ·rw [if_pos c,if_pos d,if_pos c,if_pos d]
      refine ⟨?_,by omega,by omega⟩
      rw [Int.neg_mul,Int.mul_neg,Int.mul_comm px,Int.mul_comm py]
      rw [Int.mul_comm qy,Int.mul_comm qx]
      omega
     ·rw [if_neg d] at q1;split at q1<;>omega
    ·by_cases d:0<qy/\qx<=0
     ·rw [if_neg c,if_pos d] at q1;split at q1<;>omega
     ·rw [if_neg c,if_neg d]
      rw [if_pos (by omega),if_neg c,if_neg d,if_pos (by omega),if_pos (by omega),if_pos (by omega)]
      have:py=0:=by omega
      have:qy=0:=by omega
      subst py qy
      exact ⟨by simp,by omega,by omega⟩
 rw [qd.2] at lp ly
 unfold N5 at hx ⊢
 rw [qd.2]
 generalize kS C S (J6 qx qy) (J8 qx qy)=k at*
 generalize J6 qx qy=X at*
 generalize J8 qx qy=Y at*
 generalize J6 px py=x at*
 generalize J8 px py=y at*
 simp only [Bool.or_eq_true,Bool.and_eq_true,decide_eq_true_eq] at*
 rcases hx with ⟨a,b⟩|⟨a,b⟩
 ·rw [b,Int.mul_zero] at cr
  refine .inl ⟨a,?_⟩
  have:y<=0:=by
   apply Classical.byContradiction
   intro g
   have:=Int.mul_pos (show 0<y by omega) cr.2.1
   omega
  omega
 ·rw [b] at cr
  refine .inr ⟨a,?_⟩
  have t1:=Int.le_of_mul_le_mul_right cr.1 (by omega)
  rcases ly with l|l
  ·omega
  ·rw [a,h1] at l
   have:=Int.le_of_mul_le_mul_left l (by omega)
   omega
theorem WL {C S:Nat->Nat} (hd:∀k,k<=5400000->rV C S k) (e1:C 2700000=S 2700000) (e2:0<C 2700000) {xl xh yl yh s dx dy:Int} (hx:xl<=xh) (hy:yl<=yh) (y0:0<=yl) (no:¬(xl<=0/\0<=xh/\yl<=0/\0<=yh)) (hs:0<s)
  (h1:s*xl<=dx) (h2:dx<=s*xh) (h3:s*yl<=dy) (h4:dy<=s*yh) (R:Rat) (m:Int) (R0:0<R) (nx:f9 dx (R*fR.c' m) (R*(1/2^27))) (ny:f9 dy (R*fR.s' m) (R*(1/2^27))) (m0:0<=m) (m1:m<=2*kQ):
  uW*M7 C S (B9 xl xh yl yh).1 (B9 xl xh yl yh).2<=m+hU+2^42/\m<=uW*(jW C S xl xh yl yh+(if N5 C S (D6 xl xh yl yh).1 (D6 xl xh yl yh).2 then 0 else 1))+hU/\
  M7 C S (B9 xl xh yl yh).1 (B9 xl xh yl yh).2<=jW C S xl xh yl yh/\jW C S xl xh yl yh<=10800000:=by
 obtain ⟨i,hF,hD,hL,bF,bL,mF,mL⟩:=GT hx hy no hs (show (0:Int)<1 by decide) (by omega) (by omega) (by omega) (by omega) (dx:=dx) (dy:=dy)
 have yF:0<=(B9 xl xh yl yh).2:=by simp [o9] at mF;rcases mF with h|h|h|h<;>rw [h]<;>simp only<;>omega
 have yL:0<=(D6 xl xh yl yh).2:=by simp [o9] at mL;rcases mL with h|h|h|h<;>rw [h]<;>simp only<;>omega
 have yD:0<=dy:=by have:=Int.mul_nonneg (Int.le_of_lt hs) y0;omega
 have nD:¬(dx=0/\dy=0):=fun ⟨a,b⟩=>by subst a b;unfold hf at hD;split at hD<;>omega
 have nL:¬((D6 xl xh yl yh).1=0/\(D6 xl xh yl yh).2=0):=fun ⟨a,b⟩=>by rw [a,b] at hL;unfold hf at hL;split at hL<;>omega
 have a1:=QQ (C:=C) (S:=S) i (p:=B9 xl xh yl yh) (q:=(dx,dy)) hF hD yF yD bF
 have a2:=QQ (C:=C) (S:=S) i (p:=(dx,dy)) (q:=D6 xl xh yl yh) hD hL yD yL bL
 have f:=OU hd dx dy R m R0 nx ny yD nD m0 m1
 have t:=ZU hd (D6 xl xh yl yh).1 (D6 xl xh yl yh).2 yL nL
 have ex:=fun e hx=>QG (C:=C) (S:=S) i e1 e2 (p:=(dx,dy)) (q:=D6 xl xh yl yh) hD hL yD yL bL e hx
 simp only at a1 a2 ex
 unfold jW
 rw [if_neg (by omega)]
 have w1:=jX (M7 C S (B9 xl xh yl yh).1 (B9 xl xh yl yh).2)
 have w2:=jX (M7 C S dx dy)
 have w3:=jX (M7 C S dx dy+1)
 have w4:=jX (M7 C S (D6 xl xh yl yh).1 (D6 xl xh yl yh).2)
 have w5:=jX (M7 C S (D6 xl xh yl yh).1 (D6 xl xh yl yh).2+1)
 have w6:(uW:Int)*(M7 C S (D6 xl xh yl yh).1 (D6 xl xh yl yh).2+0)=_:=jX _
 have hh:hU=2^79:=rfl
 refine ⟨by omega,?_,by omega,t⟩
 by_cases k:M7 C S dx dy=M7 C S (D6 xl xh yl yh).1 (D6 xl xh yl yh).2
 ·split
  ·rename_i hx
   have:=f.2.2 (ex k hx) e1
   rw [Int.add_zero,<-k]
   exact this
  ·omega
 ·split<;>omega
def eU:Nat:=2^77
theorem DI:1/2^25<=fR.s' eU:=(wJ 77 (by decide) (1/2^25) 1 (by decide+kernel) (by decide+kernel) (by decide+kernel)).1
theorem RV:0<=fR.s' ((2^40:Nat):Int)/\fR.s' ((2^40:Nat):Int)<=1/2^50:=wJ 40 (by decide) 0 (1/2^50) (by decide+kernel) (by decide+kernel) (by decide+kernel)
theorem RZ (a b:Int) (h0:0<=a) (h1:a+2*eU<=b) (h2:b<=2*kQ):fR.c' b+1/2^49<=fR.c' a:=by
 have s:=a00 eU (by decide) (by decide) (a+eU) (by omega) (by omega)
 have n:=DI
 have z:=fR.z_sum (a+eU) eU
 have y:=aU (a+eU) eU
 rw [show a+eU+eU=a+2*eU by omega] at z
 rw [show a+eU-eU=a by omega] at y
 have m:=fR.C_mono O9.1 O9.2 kQ X6 (a+2*eU).toNat (b-(a+2*eU)).toNat (by omega)
 rw [show (a+2*eU).toNat+(b-(a+2*eU)).toNat=b.toNat by omega,<-(fR.z_nat _).1,<-(fR.z_nat _).1,show ((b.toNat:Nat):Int)=b by omega,show (((a+2*eU).toNat:Nat):Int)=a+2*eU by omega,z.1] at m
 rw [y.2]
 have e:(2:Rat)*(1/2^25*(1/2^25))=1/2^49/\(0:Rat)<=1/2^25:=by decide+kernel
 clear z y h0 h1 h2
 generalize fR.c' b=B at*
 generalize fR.c' (a+eU)=C at*
 generalize fR.s' (a+eU)=S at*
 generalize fR.c' eU=c at*
 generalize fR.s' eU=t at*
 rw [<-e.1]
 have e2:=e.2
 clear e
 generalize (1/2^25:Rat)=E at*
 have p:=Rat.mul_nonneg (show 0<=S-t by grind) (show 0<=t by grind)
 have q:=Rat.mul_nonneg (show 0<=t-E by grind) (show 0<=t+E by grind)
 grind
theorem a29:fR.c' (2*kQ:Nat)<= -1+1/2^60:=by
 have q:=uT
 have t:=RV
 have k:((kQ:Nat):Int)=qF-((2^40:Nat):Int):=by
  have:qF=1208925819614629174706176*5400000:=jX 5400000
  have:kQ=5400000*2^80-2^40:=rfl
  omega
 have y:=(aU qF ((2^40:Nat):Int)).2
 rw [<-k] at y
 have z:=(fR.z_sum kQ kQ).1
 have o:=fR.z_one kQ
 have b:=fR.z_bd ((2^40:Nat):Int)
 have c0:=jM kQ (Nat.le_refl _)
 rw [show ((2*kQ:Nat):Int)=(kQ:Int)+kQ by omega,z]
 have e:((1:Rat)/2^60+(1/2^50+1/2^60))<=1/2^40/\(2:Rat)*(1/2^40*(1/2^40))<=1/2^60/\(1:Rat)/2^60<=1/\(0:Rat)<=1/2^40/\(0:Rat)<=1/2^60:=by decide+kernel
 have e1:=e.1;have e2:=e.2.1;have e3:=e.2.2.1;have e4:=e.2.2.2.1;have e5:=e.2.2.2.2
 clear e z k
 unfold f9 at q
 generalize fR.c' kQ=c at*
 generalize fR.s' kQ=s at*
 generalize fR.c' qF=u at*
 generalize fR.s' qF=v at*
 generalize fR.c' ((2^40:Nat):Int)=x at*
 generalize fR.s' ((2^40:Nat):Int)=r at*
 generalize (1/2^40:Rat)=E at*
 generalize (1/2^60:Rat)=F at*
 generalize (1/2^50:Rat)=G at*
 have p1:=A6 (a:=u) (b:=x) (e:=F) (f:=1) (by grind) (by grind) b.1.1 b.1.2
 have p2:=A6 (a:=v) (b:=r) (e:=1+F) (f:=r) (by grind) (by grind) (by grind) (by grind)
 have p4:=Rat.mul_nonneg e5 (show 0<=1-r by grind)
 have p3:=A6 (a:=c) (b:=c) (e:=E) (f:=E) (by grind) (by grind) (by grind) (by grind)
 grind
theorem TU (L:Int) (h1:L<=10800000) (X:Int) (x0:0<=X) (hx:X<=uW*L) (hk:X<=2*kQ):fR.c' (uW*L)<=fR.c' X+1/2^60:=by
 have w:=jX L
 have kk:kQ=5400000*2^80-2^40:=rfl
 have f0:(0:Rat)<=1/2^60:=by decide+kernel
 by_cases g:L=10800000
 ·have a:=(qB L (by omega)).1
  have i:iC L= -(2^128):=by
   subst g
   unfold iC
   have:=uR 5400000
   rw [show (5400000:Int)+10800000=10800000+5400000 by rfl,(X9 5400000 (by omega) (by omega)).1,fJ] at this
   exact this
  rw [i] at a
  have bd:=(fR.z_bd X).1.1
  have t:(0:Rat)<2^128:=by decide+kernel
  have e:(2:Rat)^64<=2^128*(1/2^60):=by decide+kernel
  unfold f9 at a
  push_cast at a
  generalize fR.c' (uW*L)=x at*
  generalize fR.c' X=y at*
  generalize (1/2^60:Rat)=F at*
  have:=b8 t (show 0<=2^128*(F-1-x) by grind)
  grind
 ·have m:=fR.C_mono O9.1 O9.2 kQ X6 X.toNat (uW*L-X).toNat (by omega)
  rw [show X.toNat+(uW*L-X).toNat=(uW*L).toNat by omega,<-(fR.z_nat _).1,<-(fR.z_nat _).1,show ((X.toNat:Nat):Int)=X by omega,show (((uW*L).toNat:Nat):Int)=uW*L by omega] at m
  generalize fR.c' (uW*L)=x at*
  generalize fR.c' X=y at*
  generalize (1/2^60:Rat)=F at*
  grind
theorem a0J (L m:Int) (_h0:0<=L) (h1:L<=10800000) (m0:0<=m) (_m1:m<=2*kQ) (h:fR.c' m<=fR.c' (uW*L)+1/2^50):uW*L<=m+2^78+2^42:=by
 have w:=jX L
 have kk:kQ=5400000*2^80-2^40:=rfl
 have ee:eU=2^77:=rfl
 apply Classical.byContradiction
 intro g
 have c:=TU L h1 (min (uW*L) (2*kQ)) (by omega) (by omega) (by omega)
 have d:=RZ m (min (uW*L) (2*kQ)) m0 (by omega) (by omega)
 have e:(1:Rat)/2^60+1/2^50<1/2^49:=by decide+kernel
 generalize fR.c' (min (uW*L) (2*kQ))=x at*
 generalize fR.c' (uW*L)=y at*
 generalize fR.c' m=z at*
 grind
theorem a0V (H m:Int) (h0:0<=H) (m1:m<=2*kQ) (h:fR.c' (uW*H)<=fR.c' m+1/2^50):m<=uW*H+2^78:=by
 have w:=jX H
 have kk:kQ=5400000*2^80-2^40:=rfl
 have ee:eU=2^77:=rfl
 apply Classical.byContradiction
 intro g
 have d:=RZ (uW*H) m (by omega) (by omega) m1
 have e:(1:Rat)/2^50<1/2^49:=by decide+kernel
 generalize fR.c' (uW*H)=y at*
 generalize fR.c' m=z at*
 grind
theorem OZ (f:Nat->Rat) (q:Rat) (N:Nat) (h0:q<=f 0) (h1:f N<q):∃m,m<N/\q<=f m/\f (m+1)<q:=by
 induction N with
 |zero=>grind
 |succ N ih=>
  by_cases g:f N<q
  ·obtain ⟨m,a,b,c⟩:=ih g
   exact ⟨m,by omega,b,c⟩
  ·exact ⟨N,by omega,by grind,h1⟩
theorem KY:2*fR.s<=1/2^90:=by decide+kernel
theorem YZ (q:Rat) (h0: -1<=q) (h1:q<=1):∃m:Int,0<=m/\m<=2*kQ/\f9 (fR.c' m) q (1/2^60):=by
 have t:=a29
 by_cases g:(fR.C (2*kQ)).1<q
 ·obtain ⟨m,a,b,c⟩:=OZ (fun n=>(fR.C n).1) q (2*kQ) (by simp only [Rg.C];exact h1) g
  have d:=fR.C_next m
  have s1:=fR.bd m
  have s2:=fR.bd (m+1)
  have n:=KY
  have cs:=O9
  have e:(1:Rat)/2^90<=1/2^60:=by decide+kernel
  refine ⟨m,by omega,by omega,?_⟩
  rw [(fR.z_nat m).1]
  unfold f9
  have b:q<=(fR.C m).1:=b
  have c:(fR.C (m+1)).1<q:=c
  generalize (fR.C m).1=x at*
  generalize (fR.C (m+1)).1=y at*
  generalize (fR.C m).2=u at*
  generalize (fR.C (m+1)).2=v at*
  have p:=Rat.mul_nonneg (Rat.le_of_lt cs.2) (show 0<=2-(u+v) by grind)
  have p2:=Rat.mul_nonneg (Rat.le_of_lt cs.1) (show 0<=x-y by grind)
  constructor<;>grind
 ·refine ⟨2*kQ,by omega,by omega,?_⟩
  rw [(fR.z_nat (2*kQ)).1] at t
  rw [show (2*(kQ:Int))=((2*kQ:Nat):Int) by omega,(fR.z_nat (2*kQ)).1]
  have bd:=(fR.bd (2*kQ)).1
  have f0:(0:Rat)<=1/2^60:=by decide+kernel
  unfold f9
  generalize (fR.C (2*kQ)).1=x at*
  constructor<;>grind
end Go.Proofs.YtdhbeoahpfimbaaGreat
