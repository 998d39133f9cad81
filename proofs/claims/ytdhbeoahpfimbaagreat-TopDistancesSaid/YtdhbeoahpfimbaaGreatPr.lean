/- Part of the proof of TopDistances. -/
import Derived.Test.YtdhbeoahpfimbaaGreatAz
import Derived.Test.YtdhbeoahpfimbaaGreatPh
import Derived.Test.YtdhbeoahpfimbaaGreatAzi
import Derived.Test.YtdhbeoahpfimbaaGreatHas
import Derived.Test.YtdhbeoahpfimbaaGreatVcC
namespace Go.Proofs.YtdhbeoahpfimbaaGreat
open Go.RowKit
def V2 (p:I2):Value:= .agg #[.int .i64 (p.1),.int .i64 (p.2)]
def V3 (p:I2):Value:= .tuple #[.agg #[.int .i64 (p.1),.int .i64 (p.2)],.int .i64 0]
theorem qP (n:Int) (h:n.natAbs<=1000000000000):jI n n=true:=by unfold jI;simp;omega
theorem I3 (n:Int) (h:n.natAbs<=1000000000000):CB 125 #[.agg #[.int .i64 n,.int .i64 n]] (V3 (I0 n)):=b6 fun w=>gT n n _ _ w (qP n h) (Y9 n).1 (Y9 n).2
theorem J5 (n:Int) (h:n.natAbs<=1000000000000):CB 124 #[.agg #[.int .i64 n,.int .i64 n]] (V3 (B6 n)):=b6 fun w=>dP n n _ _ w (qP n h) (Y9 (n+5400000)).1 (Y9 (n+5400000)).2
theorem iP (n:Int) (h:n.natAbs<=1000000000000):CB 147 #[.agg #[.int .i64 n,.int .i64 n]] (V3 (dS n)):=b6 fun w=>EF n n _ _ w (qP n h) rfl rfl
theorem A9 {p q:I2} (h1:N9 p) (h2:N9 q) (h:N9 (F6 p q)):CB 150 #[V2 p,V2 q] (V3 (F6 p q)):=b6 fun w=>dW p.1 p.2 q.1 q.2 _ _ w h1 h2 rfl rfl h
theorem Z5 {p q:I2} (h1:N9 p) (h2:N9 q) (h:N9 (vF p q)):CB 49 #[V2 p,V2 q] (V3 (vF p q)):=b6 fun w=>vU p.1 p.2 q.1 q.2 _ _ w h1 h2 rfl rfl h
theorem eV {p q:I2} (h1:N9 p) (h2:N9 q) (h:N9 (AY p q)):CB 224 #[V2 p,V2 q] (V3 (AY p q)):=b6 fun w=>JS p.1 p.2 q.1 q.2 _ _ w h1 h2 rfl rfl h
def WE (p:I2):I2:=(-p.2,-p.1)
theorem NY {p:I2} (h1:N9 p):CB 274 #[V2 p] (V3 (WE p)):=b6 fun w=>a0Z p.1 p.2 w h1
theorem rJ {p:I2} (h1:N9 p) (h:N9 (WW p)):CB 48 #[V2 p] (V3 (WW p)):=b6 fun w=>by
 have:=CJ p.1 p.2 w h1
 rw [show fl (rW p.1 p.2) 1073741824=(WW p).1 from rfl,show ce (max (p.1*p.1) (p.2*p.2)) 1073741824=(WW p).2 from rfl,fG h] at this
 exact this
theorem OK {p:I2} {r s:Int} (h1:N9 p) (h:0<=p.2) (hr:W9 (max 0 p.1*1073741824) r) (hs:W9 (p.2*1073741824) s):CB 50 #[V2 p] (V3 (r,T9 (p.2*1073741824) s)):=b6 fun w=>PQ p.1 p.2 r s w h1 h hr hs
theorem qM {p q:I2} (h1:N9 p) (h2:N9 q):CB 47 #[V2 p,V2 q] (V3 (P8 p.1 p.2 q.1 q.2,W5 p.1 p.2 q.1 q.2)):=b6 fun w=>gI p.1 p.2 q.1 q.2 w h1 h2
theorem qK (n:Int):∃k,aZ n=n+k*21600000:=by
 unfold aZ
 split
 ·exact ⟨-(n/21600000)-1,by omega⟩
 ·exact ⟨-(n/21600000),by omega⟩
theorem a0N (n:Int):I0 (aZ n)=I0 n:=by
 obtain ⟨k,e⟩:=qK n
 rw [e];unfold I0;rw [(GJ n k).1,(GJ n k).2]
theorem GV (n:Int):B6 (aZ n)=B6 n:=by
 obtain ⟨k,e⟩:=qK n
 have:=GJ (n+5400000) k
 rw [e];unfold B6;rw [show n+k*21600000+5400000=n+5400000+k*21600000 by omega,this.1,this.2]
theorem JN (n:Int):dS n=((1073741824-(B6 n).2)/2,(1073741824-(B6 n).1+1)/2):=by
 unfold dS jL oG B6
 rw [(Y9 (n+5400000)).1,(Y9 (n+5400000)).2]
theorem JH (n:Int):dS (aZ n)=dS n:=by rw [JN,JN,GV]
theorem JE (n:Int):B6 (-n)=B6 n:=by
 have a:=xU (n-5400000)
 have b:=RJ (n-5400000)
 unfold B6
 rw [show -n+5400000= -(n-5400000) by omega,a.1,a.2,show n+5400000=n-5400000+10800000 by omega,b.1,b.2]
theorem a0c (n:Int):I0 (-n)=WE (I0 n):=by
 have a:=xU n
 unfold I0 WE
 rw [a.1,a.2]
theorem oE (n:Int):I0 (5400000-n)=B6 n:=by
 have a:=lJ (5400000-n)
 unfold I0 B6
 rw [<-a.1,<-a.2,show 10800000-(5400000-n)=n+5400000 by omega]
theorem pQ (n:Int): -10800000<=aZ n/\aZ n<10800000:=by unfold aZ;split<;>omega
def cyI (lb n:Int):I2:=F6 (I0 n) (B6 lb)
def cxI (la lb n:Int):I2:=AY (F6 (B6 la) (I0 lb)) (F6 (F6 (I0 la) (B6 lb)) (B6 n))
def zyI (lb n:Int):I2:=WE (F6 (B6 lb) (I0 (-n)))
def zxI (la lb n:Int):I2:=AY (F6 (I0 lb) (B6 la)) (F6 (F6 (B6 lb) (B6 n)) (I0 la))
theorem JG {p:I2} {u w:Rat} (h:dE p u w):dE (WE p) (-u) w:=by
 unfold dE at*;rw [Rat.mul_neg];exact a19 h
theorem uG (la lb n:Int) (h1:la.natAbs<=5400000) (h2:lb.natAbs<=5400000) (h3:n.natAbs<=21600000):
  (N9 (I0 la)/\N9 (B6 la)/\N9 (I0 lb)/\N9 (B6 lb)/\N9 (I0 n)/\N9 (B6 n)/\N9 (I0 (-n)))/\
  (N9 (cyI lb n)/\N9 (F6 (B6 la) (I0 lb))/\N9 (F6 (I0 la) (B6 lb))/\N9 (F6 (F6 (I0 la) (B6 lb)) (B6 n))/\N9 (cxI la lb n))/\
  (N9 (F6 (B6 lb) (I0 (-n)))/\N9 (zyI lb n)/\N9 (F6 (I0 lb) (B6 la))/\N9 (F6 (B6 lb) (B6 n))/\N9 (F6 (F6 (B6 lb) (B6 n)) (I0 la))/\N9 (zxI la lb n))/\
  ∃y x w:Rat,dE (cyI lb n) y w/\dE (zyI lb n) y w/\dE (cxI la lb n) x w/\dE (zxI la lb n) x w:=by
 obtain ⟨a1,i1,n1⟩:=N6 la (by omega)
 obtain ⟨b1,j1,m1⟩:=X4 la (by omega)
 obtain ⟨a2,i2,n2⟩:=N6 lb (by omega)
 obtain ⟨b2,j2,m2⟩:=X4 lb (by omega)
 obtain ⟨a3,i3,n3⟩:=N6 n (by omega)
 obtain ⟨b3,j3,m3⟩:=X4 n (by omega)
 have c1:=P5 n1 (fR.z_bd (uW*la)).1
 have s1:=P5 m1 (fR.z_bd (uW*la)).2
 have c2:=P5 n2 (fR.z_bd (uW*lb)).1
 have s2:=P5 m2 (fR.z_bd (uW*lb)).2
 have c3:=P5 n3 (fR.z_bd (uW*n)).1
 have s3:=P5 m3 (fR.z_bd (uW*n)).2
 have l1:(101/100:Rat)<=2/\(101/100:Rat)<=15/10/\(101/100*(101/100):Rat)<=2/\(101/100*(101/100):Rat)<=15/10/\(101/100*(101/100)*(101/100):Rat)<=15/10:=by decide+kernel
 have j4:dE (I0 (-n)) (-b3) 1:=by rw [a0c];exact JG j3
 have s4:bq (-b3) (101/100):=by unfold bq at*;constructor<;>grind
 have y1:=G3 j3 i2 (u7 s3 l1.1) (u7 c2 l1.1) (by decide+kernel)
 have p1:=G3 i1 j2 (u7 c1 l1.1) (u7 s2 l1.1) (by decide+kernel)
 have p2:=G3 j1 i2 (u7 s1 l1.1) (u7 c2 l1.1) (by decide+kernel)
 have q2:=J9 s1 c2
 have p3:=G3 p2 i3 (u7 q2 l1.2.2.1) (u7 c3 l1.1) (by decide+kernel)
 have x1:=lZ p1 p3
 have y2:=G3 i2 j4 (u7 c2 l1.1) (u7 s4 l1.1) (by decide+kernel)
 have y3:=JG y2
 have r1:=G3 j2 i1 (u7 s2 l1.1) (u7 c1 l1.1) (by decide+kernel)
 have r2:=G3 i2 i3 (u7 c2 l1.1) (u7 c3 l1.1) (by decide+kernel)
 have q4:=J9 c2 c3
 have r3:=G3 r2 j1 (u7 q4 l1.2.2.1) (u7 s1 l1.1) (by decide+kernel)
 have x2:=lZ r1 r3
 have bx:bq (a1*b2-b1*a2*a3) (15/10):=by
  have e:=aE
  have f:(1:Rat)/2^52<=1/100:=by decide+kernel
  have z1:=fR.z_bd (uW*la)
  have z2:=fR.z_bd (uW*lb)
  have z3:=fR.z_bd (uW*n)
  have t1:=D8 n1 m2 z1.1 z2.2 (by grind)
  have t2:=D8 m1 n2 z1.2 z2.1 (by grind)
  have t3:=D8 t2 n3 (kY z1.2 z2.1) z3.1 (by grind)
  have o1:=fR.z_one (uW*la)
  have sb:=TK (c1:= -fR.s' (uW*la)) (s1:=fR.c' (uW*la)) (by grind) (fR.z_one (uW*lb)) (fR.z_one (uW*n))
  unfold f9 at t1 t3
  unfold bq
  clear z1 z2 z3 o1 t2
  rw [show -fR.s' (uW*la)*fR.c' (uW*lb)*fR.c' (uW*n)= -(fR.s' (uW*la)*fR.c' (uW*lb)*fR.c' (uW*n)) by grind] at sb
  generalize fR.s' (uW*la)*fR.c' (uW*lb)*fR.c' (uW*n)=X at*
  generalize fR.c' (uW*la)*fR.s' (uW*lb)=Y at*
  generalize a1*b2=A at*
  generalize b1*a2*a3=B at*
  generalize dX=H at*
  generalize (1/2^52:Rat)=F at*
  constructor<;>grind
 have ex:b2*a1-a2*a3*b1=a1*b2-b1*a2*a3:=by grind
 have ey: -(a2* -b3)=b3*a2:=by grind
 rw [ex] at x2
 rw [ey] at y3
 have s5:=J9 c2 s4
 refine ⟨⟨A8 j1 (u7 s1 l1.2.1) (by decide+kernel),A8 i1 (u7 c1 l1.2.1) (by decide+kernel),A8 j2 (u7 s2 l1.2.1) (by decide+kernel),A8 i2 (u7 c2 l1.2.1) (by decide+kernel),A8 j3 (u7 s3 l1.2.1) (by decide+kernel),A8 i3 (u7 c3 l1.2.1) (by decide+kernel),A8 j4 (u7 s4 l1.2.1) (by decide+kernel)⟩,
  ⟨A8 y1 (u7 (J9 s3 c2) l1.2.2.2.1) (by decide+kernel),A8 p1 (u7 (J9 c1 s2) l1.2.2.2.1) (by decide+kernel),A8 p2 (u7 q2 l1.2.2.2.1) (by decide+kernel),A8 p3 (u7 (J9 q2 c3) l1.2.2.2.2) (by decide+kernel),A8 x1 bx (by decide+kernel)⟩,
  ⟨A8 y2 (u7 s5 l1.2.2.2.1) (by decide+kernel),A8 y3 (u7 (J9 s3 c2) l1.2.2.2.1) (by decide+kernel),A8 r1 (u7 (J9 s2 c1) l1.2.2.2.1) (by decide+kernel),A8 r2 (u7 q4 l1.2.2.2.1) (by decide+kernel),A8 r3 (u7 (J9 q4 s1) l1.2.2.2.2) (by decide+kernel),A8 x2 bx (by decide+kernel)⟩,
  b3*a2,a1*b2-b1*a2*a3,1000,dJ y1 (by decide+kernel),dJ y3 (by decide+kernel),dJ x1 (by decide+kernel),dJ x2 (by decide+kernel)⟩
theorem IX (x:Rat):x*((x.den:Int):Rat)=x.num:=by
 have h:=Rat.num_divInt_den x
 rw [Rat.divInt_eq_div] at h
 have d:((x.den:Int):Rat)≠0:=by
  have:((0:Int):Rat)<((x.den:Int):Rat):=Rat.intCast_lt_intCast.2 (by have:=x.den_pos;omega)
  intro e
  rw [e] at this
  exact absurd this (by decide)
 have:=Rat.div_mul_cancel (a:=(x.num:Rat)) d
 rw [h] at this
 exact this
theorem MZ {y1 x1 y2 x2:I2} {y x w:Rat} (a:dE y1 y w) (b:dE y2 y w) (c:dE x1 x w) (d:dE x2 x w):
  dR (P8 y2.1 y2.2 x2.1 x2.2) (W5 y2.1 y2.2 x2.1 x2.2) (P8 y1.1 y1.2 x1.1 x1.2) (W5 y1.1 y1.2 x1.1 x1.2)=true:=by
 have ha:=qH a
 have hb:=qH b
 have hc:=qH c
 have hd:=qH d
 unfold dE iv at a b c d
 unfold dR
 simp only [Bool.or_eq_true,decide_eq_true_eq]
 cases o1:Y7 x1.1 x1.2 y1.1 y1.2
 ·cases o2:Y7 x2.1 x2.2 y2.1 y2.2
  ·obtain ⟨s,s0,dx,dy,ex,ey⟩:∃s:Int,0<s/\∃dx dy:Int,(dx:Rat)=s*(1073741824*x)/\(dy:Rat)=s*(1073741824*y):=by
    refine ⟨x.den*y.den,Int.mul_pos (by have:=x.den_pos;omega) (by have:=y.den_pos;omega),1073741824*x.num*y.den,1073741824*y.num*x.den,?_,?_⟩
    ·have h:=IX x
     push_cast at h ⊢
     rw [<-h]
     grind
    ·have h:=IX y
     push_cast at h ⊢
     rw [<-h]
     grind
   have s1:(0:Rat)<=s:=v6 (Int.le_of_lt s0)
   have le:∀{p:Int} {u:Rat} {d:Int},(d:Rat)=s*u->(p:Rat)<=u->s*p<=1*d:=fun {p u d} e h=>by
    apply R7
    rw [Int.one_mul,e,Rat.intCast_mul]
    exact Rat.mul_le_mul_of_nonneg_left h s1
   have ge:∀{p:Int} {u:Rat} {d:Int},(d:Rat)=s*u->u<=(p:Rat)->1*d<=s*p:=fun {p u d} e h=>by
    apply R7
    rw [Int.one_mul,e,Rat.intCast_mul]
    exact Rat.mul_le_mul_of_nonneg_left h s1
   have b1:=JI (s:=s) (t:=1) (dx:=dx) (dy:=dy) hc ha o1 s0 (by decide) (le ex c.1.1) (ge ex c.1.2) (le ey a.1.1) (ge ey a.1.2)
   have b2:=JI (s:=s) (t:=1) (dx:=dx) (dy:=dy) hd hb o2 s0 (by decide) (le ex d.1.1) (ge ex d.1.2) (le ey b.1.1) (ge ey b.1.2)
   generalize Brg.M7 cK sK dx dy=A at*
   generalize P8 y1.1 y1.2 x1.1 x1.2=p1 at*
   generalize W5 y1.1 y1.2 x1.1 x1.2=p2 at*
   generalize P8 y2.1 y2.2 x2.1 x2.2=p3 at*
   generalize W5 y2.1 y2.2 x2.1 x2.2=p4 at*
   omega
  ·rw [jE o2,iU o2]
   generalize P8 y1.1 y1.2 x1.1 x1.2=p1 at*
   left
   omega
 ·rw [jE o1,iU o1]
  generalize P8 y2.1 y2.2 x2.1 x2.2=p1 at*
  right
  omega
theorem tW {p:I2} (h:N9 p) (h1:p.1<=1073741824) (h2:0<=p.2):CB 79 #[V2 p] (V3 (Y5 p.1,fH p.2)):=b6 fun w=>IM p.1 p.2 _ _ w h h1 h2 rfl rfl
theorem LI {p:I2} (h:N9 p) (h1:p.1<=1073741824) (h2: -1073741824<=p.2):CB 203 #[V2 p] (V3 (cW p.1,cT p.2)):=b6 fun w=>KH p.1 p.2 _ _ w h h1 h2 rfl rfl
def W7 (la lo:Int):Prop:=(-4800000<=la/\la<=4800000)/\ -10800000<=lo/\lo<10800000
def dL (la lb n:Int):Int:=Y5 (Y6 la lb n).1
def dH (la lb n:Int):Int:=fH (Y6 la lb n).2
def crL (la lb n:Int):Int:=P8 (cyI lb n).1 (cyI lb n).2 (cxI la lb n).1 (cxI la lb n).2
def crH (la lb n:Int):Int:=W5 (cyI lb n).1 (cyI lb n).2 (cxI la lb n).1 (cxI la lb n).2
theorem lP (la lb n:Int):∃m:Int,0<=m/\m<=2*kQ/\f9 (fR.c' m) (qv la lb n) (1/2^60):=YZ _ (pM la lb n).1 (pM la lb n).2
theorem zW (la lo lb lob:Int) (ha:W7 la lo) (hb:W7 lb lob):CB 17 #[.agg #[.int .i64 la,.int .i64 lo],.agg #[.int .i64 lb,.int .i64 lob]] (.tuple #[.agg #[.int .i64 (crL la lb (lob-lo)),.int .i64 (crH la lb (lob-lo)),.int .i64 (dL la lb (lob-lo)),.int .i64 (dH la lb (lob-lo))],.int .i64 0]):=by
 unfold W7 at ha hb
 have D:=kO la lb (lob-lo) (by omega) (by omega) (by omega)
 have C:=uG la lb (lob-lo) (by omega) (by omega) (by omega)
 obtain ⟨m,m0,m1,hm⟩:=lP la lb (lob-lo)
 have E:=eP la lb (lob-lo) m (by omega) (by omega) (by omega) m0 m1 hm
 clear m0 m1 hm
 obtain ⟨⟨d1,d2,d3,d4,d5,d6,d7⟩,d8,d9,d10,d11,d12,d13,_⟩:=D
 obtain ⟨⟨c1,c2,c3,c4,c5,c6,c7⟩,⟨c8,c9,c10,c11,c12⟩,_⟩:=C
 have sb:=pQ (lob-lo)
 refine b6 fun w=>sV la lo lb lob _ _ _ _ w (by omega) (by omega) (by omega) (by omega) (by omega) (by omega) (by omega) (by omega)
  (b6 fun B1 w ok=>lM la lo lb lob (aZ (lob-lo)) _ _ _ _ _ _ _ _ _ _ _ _ _ _ _ _ _ _ _ _ _ _ _ _ B1 w ok (by omega) (by omega) (b6 fun w=>qA _ _ w (by omega) (by omega) rfl) ?_ ?_ (J5 la (by omega)) (J5 lb (by omega)) (I3 la (by omega)) (I3 lb (by omega)) (A9 c5 c4 c8) (A9 c2 c3 c9) (A9 c1 c4 c10) (A9 c10 c6 c11) (eV c9 c11 c12) (qM c8 c12))
  (b6 fun B1 w ok=>rM la lo lb lob (aZ (lob-lo)) _ _ _ _ _ _ _ _ _ _ _ _ _ _ _ _ B1 w ok (by omega) (by omega) (by omega) (by omega) (b6 fun w=>qA _ _ w (by omega) (by omega) rfl) (J5 la (by omega)) (J5 lb (by omega)) (A9 d1 d2 d8) ?_ (A9 d8 d6 d9) (iP (lb-la) (by omega)) (Z5 d7 d9 d12) (tW d12 E.1 E.2.1))
 ·rw [<-a0N];exact I3 _ (by omega)
 ·rw [<-GV];exact J5 _ (by omega)
 ·rw [<-JH];exact iP _ (by omega)
theorem OR (la lo lb lob:Int) (ha:W7 la lo) (hb:W7 lb lob):CB 22 #[.agg #[.int .i64 (5400000-la),.int .i64 (5400000-la)],.agg #[.int .i64 (5400000-lb),.int .i64 (5400000-lb)],.agg #[.int .i64 (aZ (lob-lo)),.int .i64 (aZ (lob-lo))]] (V3 (dL la lb (lob-lo),dH la lb (lob-lo))):=by
 unfold W7 at ha hb
 have D:=kO la lb (lob-lo) (by omega) (by omega) (by omega)
 obtain ⟨m,m0,m1,hm⟩:=lP la lb (lob-lo)
 have E:=eP la lb (lob-lo) m (by omega) (by omega) (by omega) m0 m1 hm
 clear m0 m1 hm
 obtain ⟨⟨d1,d2,d3,d4,d5,d6,d7⟩,d8,d9,d10,d11,d12,d13,_⟩:=D
 have sb:=pQ (lob-lo)
 have e:5400000-la-(5400000-lb)=lb-la:=by omega
 refine b6 fun w=>DO (5400000-la) (5400000-la) (5400000-lb) (5400000-lb) (aZ (lob-lo)) (aZ (lob-lo)) (lb-la) (lb-la) (dS (lb-la)).1 (dS (lb-la)).2 (B6 la).1 (B6 la).2 (B6 lb).1 (B6 lb).2 (F6 (B6 la) (B6 lb)).1 (F6 (B6 la) (B6 lb)).2 (dS (lob-lo)).1 (dS (lob-lo)).2 (F6 (F6 (B6 la) (B6 lb)) (dS (lob-lo))).1 (F6 (F6 (B6 la) (B6 lb)) (dS (lob-lo))).2 (Y6 la lb (lob-lo)).1 (Y6 la lb (lob-lo)).2 _ _ w
  (b6 fun w=>xF _ _ w (by omega) (by omega) (by omega)) (b6 fun w=>xF _ _ w (by omega) (by omega) (by omega)) (b6 fun w=> ?_) (b6 fun w=> ?_) (iP _ (by omega)) ?_ ?_ (A9 d1 d2 d8) ?_ (A9 d8 d6 d9) (Z5 d7 d9 d12) (tW d12 E.1 E.2.1)
 ·have:=G7 (aZ (lob-lo)) (aZ (lob-lo)) w;rw [G8 (by omega)] at this;exact this
 ·have:=a1N (5400000-la) (5400000-la) (5400000-lb) (5400000-lb) w (G8 (by omega)) (G8 (by omega)) (bJ (by omega)) (bJ (by omega));rw [e] at this;exact this
 ·rw [<-oE];exact I3 _ (by omega)
 ·rw [<-oE];exact I3 _ (by omega)
 ·rw [<-JH];exact iP _ (by omega)
def slL (la lb n:Int):Int:=cW (oO la lb n).1
def slH (la lb n:Int):Int:=cT (oO la lb n).2
def szL (la lb n:Int):Int:=P8 (zyI lb n).1 (zyI lb n).2 (zxI la lb n).1 (zxI la lb n).2
def szH (la lb n:Int):Int:=W5 (zyI lb n).1 (zyI lb n).2 (zxI la lb n).1 (zxI la lb n).2
theorem LH (la lo lb lob:Int) (ha:W7 la lo) (hb:W7 lb lob):CB 23 #[.agg #[.int .i64 la,.int .i64 la,.int .i64 lb,.int .i64 lb,.int .i64 (lo-lob),.int .i64 (lo-lob)]] (.tuple #[.agg #[.int .i64 (slL la lb (lob-lo)),.int .i64 (slH la lb (lob-lo)),.int .i64 (szL la lb (lob-lo)),.int .i64 (szH la lb (lob-lo))],.int .i64 0]):=by
 unfold W7 at ha hb
 have D:=kO la lb (lob-lo) (by omega) (by omega) (by omega)
 have C:=uG la lb (lob-lo) (by omega) (by omega) (by omega)
 have A:=BX la lb (lob-lo) (by omega) (by omega) (by omega)
 obtain ⟨⟨d1,d2,d3,d4,d5,d6,d7⟩,d8,d9,d10,d11,d12,d13,_⟩:=D
 obtain ⟨⟨c1,c2,c3,c4,c5,c6,c7⟩,_,⟨c8,c9,c10,c11,c12,c13⟩,_⟩:=C
 have e:lo-lob= -(lob-lo):=by omega
 rw [e]
 have V:=b6 fun w=>IT la la lb lb (-(lob-lo)) (-(lob-lo)) w (by omega) (by omega) (by omega) (by omega) (by omega) (by omega) (G8 (by omega))
 have CN:CB 124 #[.agg #[.int .i64 (-(lob-lo)),.int .i64 (-(lob-lo))]] (V3 (B6 (lob-lo))):=by rw [<-JE];exact J5 _ (by omega)
 refine b6 fun w=>NZ la la lb lb (-(lob-lo)) (-(lob-lo)) _ _ _ _ w
  (b6 fun w=>GU la la lb lb (-(lob-lo)) (-(lob-lo)) _ _ w V (b6 fun w=>tZ la la lb lb (-(lob-lo)) (-(lob-lo)) _ _ _ _ _ _ _ _ _ _ _ _ _ _ _ _ _ _ _ _ _ _ w (I3 la (by omega)) (J5 la (by omega)) (I3 lb (by omega)) (J5 lb (by omega)) (I3 _ (by omega)) CN (A9 d3 d4 d11) (A9 d1 d2 d8) (A9 d8 d5 d10) (Z5 d11 d10 d13) (LI d13 A.1 A.2.1)))
  (b6 fun w=>a0o la la lb lb (-(lob-lo)) (-(lob-lo)) _ _ w V (b6 fun w=>MA la la lb lb (-(lob-lo)) (-(lob-lo)) _ _ _ _ _ _ _ _ _ _ _ _ _ _ _ _ _ _ _ _ _ _ _ _ _ _ w (I3 la (by omega)) (J5 la (by omega)) (I3 lb (by omega)) (J5 lb (by omega)) (I3 _ (by omega)) CN (A9 c4 c7 c8) (NY c8) (A9 c3 c2 c10) (A9 c4 c6 c11) (A9 c11 c1 c12) (eV c10 c12 c13) (qM c9 c13)))
theorem JZ (la lo:Int) (ha:W7 la lo):CB 18 #[.agg #[.int .i64 la,.int .i64 la],.agg #[.int .i64 lo,.int .i64 lo]] (.tuple #[.agg #[.int .i64 (vX la lo).1,.int .i64 (vX la lo).2,.int .i64 (vY la lo).1,.int .i64 (vY la lo).2,.int .i64 (vZ la).1,.int .i64 (vZ la).2],.int .i64 0]):=by
 unfold W7 at ha
 obtain ⟨⟨c1,c2,_,_,c3,c4,_⟩,⟨c5,c6,_⟩,_⟩:=uN la lo la lo (by omega) (by omega) (by omega) (by omega)
 refine b6 fun w=>XC la la lo lo _ _ _ _ _ _ _ _ _ _ _ _ w (b6 fun w=> ?_) (b6 fun w=> ?_) (J5 la (by omega)) (J5 lo (by omega)) (A9 c1 c3 c5) (I3 lo (by omega)) (A9 c1 c4 c6) (I3 la (by omega))
 ·have:=G7 la la w;rw [G8 (by omega)] at this;exact this
 ·have:=G7 lo lo w;rw [G8 (by omega)] at this;exact this
theorem a0H {p h m:Int} (a:uW*p<=m+hU+2^42) (b:m<=uW*h+2^78):p<=h:=by
 have w1:=jX p
 have w2:=jX h
 have hh:hU=2^79:=rfl
 omega
theorem UZ {l r m:Int} (a:uW*l<=m+2^78+2^42) (b:m<=uW*r+hU):l<=r:=by
 have w1:=jX l
 have w2:=jX r
 have hh:hU=2^79:=rfl
 omega
theorem xH (la lo lb lob:Int) (ha:W7 la lo) (hb:W7 lb lob):∃p r:Int,0<=p/\p<=r/\r<=10800001/\p<=dH la lb (lob-lo)/\dL la lb (lob-lo)<=r/\
  CB 20 #[.agg #[.int .i64 (vX la lo).1,.int .i64 (vX la lo).2,.int .i64 (vY la lo).1,.int .i64 (vY la lo).2,.int .i64 (vZ la).1,.int .i64 (vZ la).2],.agg #[.int .i64 (vX lb lob).1,.int .i64 (vX lb lob).2,.int .i64 (vY lb lob).1,.int .i64 (vY lb lob).2,.int .i64 (vZ lb).1,.int .i64 (vZ lb).2]] (V3 (p,r)):=by
 unfold W7 at ha hb
 have B:=uN la lo lb lob (by omega) (by omega) (by omega) (by omega)
 obtain ⟨m,m0,m1,hm⟩:=lP la lb (lob-lo)
 have E:=eP la lb (lob-lo) m (by omega) (by omega) (by omega) m0 m1 hm
 obtain ⟨rl,hl1,hl2,hl3⟩:=lO (max 0 (wQ la lo lb lob).1*1073741824) (by omega)
 have t0:0<=(wQ la lo lb lob).2:=by
  obtain ⟨_,_,_,_,_,_,D,N,_,iN,_,_,N0⟩:=B
  unfold dE iv at iN
  exact R7 (Rat.le_trans (Rat.mul_nonneg (show (0:Rat)<=1073741824 by decide) N0) iN.1.2)
 obtain ⟨rs,hs1,hs2,hs3⟩:=lO ((wQ la lo lb lob).2*1073741824) (by omega)
 have T:=UH la lo lb lob m rl rs (by omega) (by omega) (by omega) (by omega) m0 m1 hm ⟨hl1,hl2,hl3⟩ ⟨hs1,hs2,hs3⟩
 obtain ⟨⟨a1,a2,a3,a4,a5,a6,a7,a8⟩,⟨b1,b2,b3,b4⟩,⟨c1,c2,c3,c4,c5,c6⟩,⟨k1,k2,k3⟩,⟨e1,e2,e3,e4,e5⟩,⟨f1,f2,f3,f4,f5⟩,_⟩:=B
 refine ⟨_,_,T.2.2.2.2.1,T.2.2.2.2.2.1,T.2.2.2.2.2.2,?_,?_,b6 fun w=>sA _ _ _ _ _ _ _ _ _ _ _ _ _ _ _ _ _ _ _ _ _ _ _ _ _ _ _ _ _ _ _ _ _ _ w ?_ (b6 fun w=>tT _ _ _ _ _ _ w b1 b2 a2) (b6 fun w=>tT _ _ _ _ _ _ w b3 b4 a4)
  (b6 fun B1 w ok=>yG _ _ _ _ _ _ _ _ _ _ _ _ _ _ _ _ _ _ _ _ _ _ _ _ _ _ _ _ _ _ B1 w ok (A9 b2 a4 c1) (A9 a2 b4 c2) (A9 a2 b3 c3) (A9 b1 a4 c4) (A9 b1 b4 c5) (A9 b2 b3 c6) (eV c1 c2 k1) (eV c3 c4 k2) (eV c5 c6 k3))
  (rJ k1 f1) (rJ k2 f2) (Z5 f1 f2 f4) (rJ k3 f3) (Z5 f4 f3 f5) (OK f5 t0 ⟨hl1,hl2,hl3⟩ ⟨hs1,hs2,hs3⟩)
  (b6 fun B1 w ok=>NB _ _ _ _ _ _ _ _ _ _ _ _ _ _ _ _ _ _ _ _ _ _ B1 w ok (A9 b1 b3 e1) (A9 b2 b4 e2) (Z5 e1 e2 e4) (A9 a2 a4 e3) (Z5 e4 e3 e5)) (qM T.2.1 e5)⟩
 ·have t:=T.2.2.1
  have d:=E.2.2.2.2.2.2.2.1
  exact a0H t d
 ·have t:=T.2.2.2.1
  have d:=E.2.2.2.2.2.2.1
  exact UZ d t
 ·have t1:=T.2.2.2.2.1
  have t2:=T.2.2.2.2.2.1
  have t3:=T.2.2.2.2.2.2
  clear T E
  generalize P8 rl (T9 ((wQ la lo lb lob).2*1073741824) rs) (uY la lo lb lob).1 (uY la lo lb lob).2=p at*
  generalize W5 rl (T9 ((wQ la lo lb lob).2*1073741824) rs) (uY la lo lb lob).1 (uY la lo lb lob).2=r at*
  exact ⟨by omega,by omega⟩
end Go.Proofs.YtdhbeoahpfimbaaGreat
