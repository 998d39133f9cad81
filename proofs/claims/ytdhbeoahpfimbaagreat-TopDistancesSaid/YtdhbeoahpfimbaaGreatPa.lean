/- Part of the proof of TopDistances. -/
namespace Go.Proofs.YtdhbeoahpfimbaaGreat
structure Rg where
 c:Rat
 s:Rat
 h:c*c+s*s=1
def Rg.C (r:Rg):Nat->Rat×Rat
 |0=>(1,0)
 |n+1=>(r.c*(r.C n).1-r.s*(r.C n).2,r.s*(r.C n).1+r.c*(r.C n).2)
theorem Rg.one (r:Rg) (n:Nat):(r.C n).1*(r.C n).1+(r.C n).2*(r.C n).2=1:=by
 induction n with
 |zero=>simp only [Rg.C];grind
 |succ n ih=>
  have:=r.h
  simp only [Rg.C]
  grind
theorem Rg.sum (r:Rg) (a b:Nat):(r.C (a+b)).1=(r.C a).1*(r.C b).1-(r.C a).2*(r.C b).2/\(r.C (a+b)).2=(r.C a).2*(r.C b).1+(r.C a).1*(r.C b).2:=by
 induction b with
 |zero=>simp only [Rg.C,Nat.add_zero];constructor<;>grind
 |succ b ih=>
  rw [<-Nat.add_assoc]
  simp only [Rg.C]
  rw [ih.1,ih.2]
  constructor<;>grind
theorem x7 (t:Rat):0<=t*t:=by
 rcases Rat.le_total (a:=0) (b:=t) with h|h
 ·exact Rat.mul_nonneg h h
 ·have:=Rat.mul_nonneg (a:= -t) (b:= -t) (by grind) (by grind)
  grind
theorem b8 {a b:Rat} (h:0<a) (k:0<=a*b):0<=b:=by
 rcases Rat.le_total (a:=0) (b:=b) with g|g
 ·exact g
 ·by_cases e:b=0
  ·grind
  ·have:=Rat.mul_pos (a:=a) (b:= -b) h (by grind)
   grind
theorem a3A (x1 x2 x3 y1 y2 y3 z1 z2 z3 ca sa cb sb:Rat) (hx:x1*x1+x2*x2+x3*x3=1) (hy:y1*y1+y2*y2+y3*y3=1) (hz:z1*z1+z2*z2+z3*z3=1)
 (ha:ca*ca+sa*sa=1) (hb:cb*cb+sb*sb=1) (a0:0<sa) (b0:0<sb) (ab:0<=sa*cb+ca*sb)
 (p:ca<=x1*y1+x2*y2+x3*y3) (q:cb<=y1*z1+y2*z2+y3*z3):ca*cb-sa*sb<=x1*z1+x2*z2+x3*z3:=by
 have k:0<=(sb*x1-(sa*cb+ca*sb)*y1+sa*z1)*(sb*x1-(sa*cb+ca*sb)*y1+sa*z1)+(sb*x2-(sa*cb+ca*sb)*y2+sa*z2)*(sb*x2-(sa*cb+ca*sb)*y2+sa*z2)+(sb*x3-(sa*cb+ca*sb)*y3+sa*z3)*(sb*x3-(sa*cb+ca*sb)*y3+sa*z3):=by
  have sq:∀t:Rat,0<=t*t:=x7
  have q1:=sq (sb*x1-(sa*cb+ca*sb)*y1+sa*z1)
  have q2:=sq (sb*x2-(sa*cb+ca*sb)*y2+sa*z2)
  have q3:=sq (sb*x3-(sa*cb+ca*sb)*y3+sa*z3)
  grind
 have e:(sb*x1-(sa*cb+ca*sb)*y1+sa*z1)*(sb*x1-(sa*cb+ca*sb)*y1+sa*z1)+(sb*x2-(sa*cb+ca*sb)*y2+sa*z2)*(sb*x2-(sa*cb+ca*sb)*y2+sa*z2)+(sb*x3-(sa*cb+ca*sb)*y3+sa*z3)*(sb*x3-(sa*cb+ca*sb)*y3+sa*z3)
     =sb*sb+(sa*cb+ca*sb)*(sa*cb+ca*sb)+sa*sa-2*sb*(sa*cb+ca*sb)*(x1*y1+x2*y2+x3*y3)-2*(sa*cb+ca*sb)*sa*(y1*z1+y2*z2+y3*z3)+2*sa*sb*(x1*z1+x2*z2+x3*z3):=by grind
 rw [e] at k
 clear e
 generalize x1*y1+x2*y2+x3*y3=P at*
 generalize y1*z1+y2*z2+y3*z3=Q at*
 generalize x1*z1+x2*z2+x3*z3=W at*
 have m1:0<=(sb*(sa*cb+ca*sb))*(P-ca):=Rat.mul_nonneg (Rat.mul_nonneg (by grind) ab) (by grind)
 have m2:0<=((sa*cb+ca*sb)*sa)*(Q-cb):=Rat.mul_nonneg (Rat.mul_nonneg ab (by grind)) (by grind)
 have id:2*((sa*sb)*(W-(ca*cb-sa*sb)))=(sb*sb+(sa*cb+ca*sb)*(sa*cb+ca*sb)+sa*sa-2*sb*(sa*cb+ca*sb)*P-2*(sa*cb+ca*sb)*sa*Q+2*sa*sb*W)+2*((sb*(sa*cb+ca*sb))*(P-ca))+2*(((sa*cb+ca*sb)*sa)*(Q-cb)):=by grind
 have m3:0<=(sa*sb)*(W-(ca*cb-sa*sb)):=by
  generalize (sa*sb)*(W-(ca*cb-sa*sb))=U at*
  generalize (sb*(sa*cb+ca*sb))*(P-ca)=M1 at*
  generalize ((sa*cb+ca*sb)*sa)*(Q-cb)=M2 at*
  grind
 have m5:0<=W-(ca*cb-sa*sb):=b8 (Rat.mul_pos a0 b0) m3
 generalize ca*cb-sa*sb=V at*
 grind
theorem Rg.tri (r:Rg) (a b:Nat) (x1 x2 x3 y1 y2 y3 z1 z2 z3:Rat) (hx:x1*x1+x2*x2+x3*x3=1) (hy:y1*y1+y2*y2+y3*y3=1) (hz:z1*z1+z2*z2+z3*z3=1)
 (a0:0<(r.C a).2) (b0:0<(r.C b).2) (ab:0<=(r.C (a+b)).2)
 (p:(r.C a).1<=x1*y1+x2*y2+x3*y3) (q:(r.C b).1<=y1*z1+y2*z2+y3*z3):(r.C (a+b)).1<=x1*z1+x2*z2+x3*z3:=by
 rw [(r.sum a b).1]
 rw [(r.sum a b).2] at ab
 exact a3A x1 x2 x3 y1 y2 y3 z1 z2 z3 _ _ _ _ hx hy hz (r.one a) (r.one b) a0 b0 ab p q
def Rg.D (r:Rg) (m:Nat):Rat:=2-2*(r.C m).1
theorem Rg.D_zero (r:Rg):r.D 0=0:=by simp only [Rg.D,Rg.C];grind
theorem Rg.D_one (r:Rg):r.D 1=2-2*r.c:=by simp only [Rg.D,Rg.C];grind
theorem Rg.D_pos (r:Rg) (m:Nat):0<=r.D m:=by
 have h:=r.one m
 have q:=x7 (r.C m).2
 unfold Rg.D
 generalize (r.C m).1=x at*
 generalize (r.C m).2=y at*
 by_cases g:x<=1
 ·grind
 ·exfalso
  have:=Rat.mul_pos (a:=x-1) (b:=x+1) (by grind) (by grind)
  grind
theorem Rg.D_le (r:Rg) (m:Nat):r.D m<=(m:Rat)*m*r.D 1:=by
 induction m with
 |zero=>rw [r.D_zero];grind
 |succ m ih=>
  rcases Nat.eq_zero_or_pos m with h0|h0
  ·subst h0;simp only [Nat.zero_add];grind
  ·have hm:(0:Rat)<m:=by exact_mod_cast h0
   have h:=r.one m
   have hr:=r.h
   have d1:=r.D_pos 1
   rw [r.D_one] at*
   have e:r.D (m+1)=r.D m+(2-2*r.c)+2*(((r.C m).1-1)*(1-r.c)+(r.C m).2*r.s):=by
    simp only [Rg.D,Rg.C];grind
   have k1:=x7 (((r.C m).1-1)-m*(1-r.c))
   have k2:=x7 ((r.C m).2-m*r.s)
   have ex:(((r.C m).1-1)-m*(1-r.c))*(((r.C m).1-1)-m*(1-r.c))+((r.C m).2-m*r.s)*((r.C m).2-m*r.s)=r.D m+m*m*(2-2*r.c)-2*m*(((r.C m).1-1)*(1-r.c)+(r.C m).2*r.s):=by
    simp only [Rg.D];grind
   generalize hT:((r.C m).1-1)*(1-r.c)+(r.C m).2*r.s=T at*
   generalize hD:r.D m=Dm at*
   generalize hE:2-2*r.c=D1 at*
   have t2:0<=(2*(m:Rat))*(m*D1-T):=by grind
   have t3:0<=m*D1-T:=b8 (by grind) t2
   rw [e]
   push_cast
   grind
theorem Rg.D_next (r:Rg) (m:Nat):r.D (m+1+1)-r.D (m+1)=r.D (m+1)-r.D m+r.D 1*(2-r.D (m+1)):=by
 have hr:=r.h
 rw [r.D_one]
 simp only [Rg.D,Rg.C]
 grind
theorem Rg.D_ge' (r:Rg) (m:Nat):(2*(m:Rat)+1)*r.D 1-m*m*m*(r.D 1*r.D 1)<=r.D (m+1)-r.D m/\(m:Rat)*m*r.D 1-m*m*m*m*(r.D 1*r.D 1)<=r.D m:=by
 have d1:=r.D_pos 1
 have dd:=Rat.mul_nonneg d1 d1
 induction m with
 |zero=>rw [r.D_zero,Nat.zero_add];constructor<;>grind
 |succ m ih=>
  have n:=r.D_next m
  have l:=r.D_le (m+1)
  have l2:=Rat.mul_nonneg d1 (show 0<=((m+1:Nat):Rat)*(m+1:Nat)*r.D 1-r.D (m+1) by grind)
  have m0:(0:Rat)<=m:=by exact_mod_cast Nat.zero_le m
  have m2:=Rat.mul_nonneg m0 m0
  have m3:=Rat.mul_nonneg m2 m0
  have x1:=Rat.mul_nonneg m0 dd
  have x2:=Rat.mul_nonneg m2 dd
  have x3:=Rat.mul_nonneg m3 dd
  push_cast at*
  generalize r.D (m+1+1)=A at*
  generalize r.D (m+1)=B at*
  generalize r.D m=E at*
  generalize r.D 1=F at*
  generalize (m:Rat)=M at*
  constructor<;>grind
theorem Rg.D_ge (r:Rg) (m:Nat):(m:Rat)*m*r.D 1-m*m*m*m*(r.D 1*r.D 1)<=r.D m:=(r.D_ge' m).2
theorem Rg.S_pos (r:Rg) (hc:0<r.c) (hs:0<r.s) (K:Nat) (h:∀n,n<K->0<(r.C n).1):∀n,0<n->n<=K->0<(r.C n).2:=by
 intro n
 induction n with
 |zero=>intro h;omega
 |succ n ih=>
  intro _ hn
  have p:=Rat.mul_pos hs (h n (by omega))
  simp only [Rg.C]
  rcases Nat.eq_zero_or_pos n with h0|h0
  ·subst h0;simp only [Rg.C] at*;grind
  ·have q:=Rat.mul_pos hc (ih h0 (by omega))
   grind
theorem Rg.quarter (r:Rg) (hc:0<r.c) (hs:0<r.s) (K:Nat) (hK:0<(r.C K).1) (h8:(K:Rat)*K*r.D 1<8):∀n,n<=K->0<(r.C n).1:=by
 intro n
 induction n using Nat.strongRecOn with
 |_ n ih=>
  intro hn
  apply Classical.byContradiction
  intro g
  have g0:(r.C n).1<=0:=by grind
  have S:=r.S_pos hc hs n (fun k hk=>ih k hk (by omega))
  have n0:0<n:=by
   rcases Nat.eq_zero_or_pos n with h|h
   ·subst h;simp only [Rg.C] at g0;exact absurd g0 (by decide)
   ·exact h
  have dn:=r.D_le n
  have d2:2<=r.D n:=by unfold Rg.D;grind
  have d1:=r.D_pos 1
  have lt:K<2*n:=by
   apply Classical.byContradiction
   intro k
   have k1:(2:Rat)*n<=K:=by exact_mod_cast (show 2*n<=K by omega)
   have k0:(0:Rat)<=n:=by exact_mod_cast Nat.zero_le n
   have k2:=Rat.mul_nonneg (show 0<=(K:Rat)-2*n by grind) (show 0<=(K:Rat)+2*n by grind)
   have k3:=Rat.mul_nonneg k2 d1
   grind
  rcases Nat.eq_zero_or_pos (K-n) with h|h
  ·have:n=K:=by omega
   subst this
   exact g hK
  ·have e:=(r.sum n (K-n)).1
   rw [show n+(K-n)=K by omega] at e
   have a:=ih (K-n) (by omega) (by omega)
   have b:=S (K-n) h (by omega)
   have c:=S n n0 (Nat.le_refl _)
   have ab:=Rat.mul_pos c b
   have ac:=Rat.mul_nonneg (show 0<= -(r.C n).1 by grind) (Rat.le_of_lt a)
   grind
theorem Rg.S_half (r:Rg) (hc:0<r.c) (hs:0<r.s) (K:Nat) (h:∀n,n<=K->0<(r.C n).1) (m:Nat) (m0:0<m) (hm:m<=2*K):0<(r.C m).2:=by
 have S:=r.S_pos hc hs K (fun n hn=>h n (by omega))
 by_cases g:m<=K
 ·exact S m m0 g
 ·have e:=(r.sum K (m-K)).2
  rw [show K+(m-K)=m by omega] at e
  have a:=Rat.mul_pos (S K (by omega) (Nat.le_refl _)) (h (m-K) (by omega))
  have b:=Rat.mul_pos (h K (Nat.le_refl _)) (S (m-K) (by omega) (by omega))
  grind
theorem Rg.path (r:Rg) (hc:0<r.c) (hs:0<r.s) (K:Nat) (h:∀n,n<=K->0<(r.C n).1) (x y z:Nat->Rat) (b N:Nat) (b0:0<b) (hu:∀j,x j*x j+y j*y j+z j*z j=1)
  (hb:∀j,j<N->(r.C b).1<=x j*x (j+1)+y j*y (j+1)+z j*z (j+1)) (hN:N*b<=2*K):
  ∀j,j<=N->(r.C (j*b)).1<=x 0*x j+y 0*y j+z 0*z j:=by
 intro j
 induction j with
 |zero=>
  intro _
  rw [Nat.zero_mul]
  have:=hu 0
  simp only [Rg.C]
  grind
 |succ j ih=>
  intro hj
  have le:(j+1)*b<=2*K:=Nat.le_trans (Nat.mul_le_mul_right b hj) hN
  rw [Nat.succ_mul] at le ⊢
  rcases Nat.eq_zero_or_pos j with h0|h0
  ·subst h0
   rw [Nat.zero_mul,Nat.zero_add]
   exact hb 0 (by omega)
  ·have pos:0<j*b:=Nat.mul_pos h0 b0
   have S:=r.S_half hc hs K h
   exact r.tri (j*b) b _ _ _ _ _ _ _ _ _ (hu 0) (hu j) (hu (j+1)) (S _ pos (by omega)) (S _ b0 (by omega)) (Rat.le_of_lt (S _ (by omega) le)) (ih (by omega)) (hb j (by omega))
theorem Rg.C_next (r:Rg) (n:Nat):(1+r.c)*((r.C n).1-(r.C (n+1)).1)=r.s*((r.C n).2+(r.C (n+1)).2):=by
 have:=r.h
 simp only [Rg.C]
 grind
theorem Rg.C_mono (r:Rg) (hc:0<r.c) (hs:0<r.s) (K:Nat) (h:∀n,n<=K->0<(r.C n).1) (a d:Nat) (hd:a+d<=2*K):(r.C (a+d)).1<=(r.C a).1:=by
 induction d with
 |zero=>exact Rat.le_refl
 |succ d ih=>
  have S:=fun m hm=>show 0<=(r.C m).2 by
   rcases Nat.eq_zero_or_pos m with k|k
   ·subst k;simp only [Rg.C];exact Rat.le_refl
   ·exact Rat.le_of_lt (r.S_half hc hs K h m k hm)
  have e:=r.C_next (a+d)
  have p:=Rat.mul_nonneg (Rat.le_of_lt hs) (show 0<=(r.C (a+d)).2+(r.C (a+d+1)).2 by have:=S (a+d) (by omega);have:=S (a+d+1) (by omega);grind)
  have q:=b8 (show 0<1+r.c by grind) (show 0<=(1+r.c)*((r.C (a+d)).1-(r.C (a+d+1)).1) by rw [e];exact p)
  have:=ih (by omega)
  rw [<-Nat.add_assoc]
  grind
def Rg.c' (r:Rg) (n:Int):Rat:=(r.C n.natAbs).1
def Rg.s' (r:Rg) (n:Int):Rat:=if 0<=n then (r.C n.natAbs).2 else -(r.C n.natAbs).2
theorem Rg.z_nat (r:Rg) (n:Nat):r.c' n=(r.C n).1/\r.s' n=(r.C n).2:=by
 simp [Rg.c',Rg.s']
theorem Rg.z_neg (r:Rg) (n:Int):r.c' (-n)=r.c' n/\r.s' (-n)= -r.s' n:=by
 unfold Rg.c' Rg.s'
 rw [Int.natAbs_neg]
 refine ⟨rfl,?_⟩
 rcases Int.lt_trichotomy n 0 with h|h|h
 ·rw [if_pos (by omega),if_neg (by omega)];grind
 ·subst h;simp [Rg.C]
 ·rw [if_neg (by omega),if_pos (by omega)]
theorem Rg.z_one (r:Rg) (n:Int):r.c' n*r.c' n+r.s' n*r.s' n=1:=by
 have:=r.one n.natAbs
 unfold Rg.c' Rg.s'
 split<;>grind
theorem Rg.z_step (r:Rg) (n:Int):r.c' (n+1)=r.c*r.c' n-r.s*r.s' n/\r.s' (n+1)=r.s*r.c' n+r.c*r.s' n:=by
 by_cases h:0<=n
 ·obtain ⟨k,rfl⟩:∃k:Nat,n=k:=⟨n.toNat,by omega⟩
  have a:=r.z_nat (k+1)
  rw [show (((k+1:Nat):Int))=(k:Int)+1 by omega] at a
  rw [a.1,a.2,(r.z_nat k).1,(r.z_nat k).2]
  simp only [Rg.C]
  constructor<;>grind
 ·obtain ⟨k,rfl⟩:∃k:Nat,n= -((k+1:Nat):Int):=⟨(-n-1).toNat,by omega⟩
  rw [show -((k+1:Nat):Int)+1= -((k:Nat):Int) by omega,(r.z_neg _).1,(r.z_neg _).2,(r.z_neg _).1,(r.z_neg _).2,(r.z_nat k).1,(r.z_nat k).2,(r.z_nat (k+1)).1,(r.z_nat (k+1)).2]
  have:=r.h
  simp only [Rg.C]
  constructor<;>grind
theorem Rg.z_sum (r:Rg) (a b:Int):r.c' (a+b)=r.c' a*r.c' b-r.s' a*r.s' b/\r.s' (a+b)=r.s' a*r.c' b+r.c' a*r.s' b:=by
 have P:∀(a:Int) (b:Nat),r.c' (a+b)=r.c' a*r.c' b-r.s' a*r.s' b/\r.s' (a+b)=r.s' a*r.c' b+r.c' a*r.s' b:=by
  intro a b
  induction b with
  |zero=>simp [Rg.c',Rg.s',Rg.C];constructor<;>grind
  |succ b ih=>
   have x:=r.z_step (a+b)
   have y:=r.z_step b
   rw [show a+((b+1:Nat):Int)=a+b+1 by omega,show ((b+1:Nat):Int)=(b:Int)+1 by omega,x.1,x.2,y.1,y.2,ih.1,ih.2]
   constructor<;>grind
 by_cases h:0<=b
 ·obtain ⟨k,rfl⟩:∃k:Nat,b=k:=⟨b.toNat,by omega⟩
  exact P a k
 ·obtain ⟨k,rfl⟩:∃k:Nat,b= -(k:Int):=⟨(-b).toNat,by omega⟩
  have x:=P (a+ -(k:Int)) k
  rw [show a+ -(k:Int)+k=a by omega] at x
  have u:=r.z_one k
  rw [(r.z_neg _).1,(r.z_neg _).2,x.1,x.2]
  constructor<;>grind
def Rg.X (r:Rg) (f l:Int):Rat:=r.c' f*r.c' l
def Rg.Y (r:Rg) (f l:Int):Rat:=r.c' f*r.s' l
theorem Rg.unit (r:Rg) (f l:Int):r.X f l*r.X f l+r.Y f l*r.Y f l+r.s' f*r.s' f=1:=by
 have a:=r.z_one f
 have b:=r.z_one l
 unfold Rg.X Rg.Y
 grind
theorem Rg.dot (r:Rg) (f l g m:Int):r.X f l*r.X g m+r.Y f l*r.Y g m+r.s' f*r.s' g=r.c' (g-f)-r.c' f*r.c' g*(1-r.c' (m-l)):=by
 have a:=(r.z_sum g (-f)).1
 have b:=(r.z_sum m (-l)).1
 rw [(r.z_neg _).1,(r.z_neg _).2] at a b
 rw [show g-f=g+ -f by omega,show m-l=m+ -l by omega,a,b]
 unfold Rg.X Rg.Y
 grind
theorem Rg.step_ok (r:Rg) (f l g m:Int) (b:Nat) (h:0<=r.c' f*r.c' g)
  (hb:((g-f).natAbs:Rat)*(g-f).natAbs+r.c' f*r.c' g*(((m-l).natAbs:Rat)*(m-l).natAbs)<=(b:Rat)*b-b*b*b*b*r.D 1):
  (r.C b).1<=r.X f l*r.X g m+r.Y f l*r.Y g m+r.s' f*r.s' g:=by
 rw [r.dot]
 have du:=r.D_le (g-f).natAbs
 have dl:=r.D_le (m-l).natAbs
 have db:=r.D_ge b
 have d1:=r.D_pos 1
 have e1:r.c' (g-f)=1-r.D (g-f).natAbs/2:=by unfold Rg.c' Rg.D;grind
 have e2:1-r.c' (m-l)=r.D (m-l).natAbs/2:=by unfold Rg.c' Rg.D;grind
 have e3:(r.C b).1=1-r.D b/2:=by unfold Rg.D;grind
 rw [e1,e2,e3]
 have k:=Rat.mul_nonneg h (show 0<=(((m-l).natAbs:Rat)*(m-l).natAbs*r.D 1)-r.D (m-l).natAbs by grind)
 have k2:=Rat.mul_nonneg d1 (show 0<=((b:Rat)*b-b*b*b*b*r.D 1)-(((g-f).natAbs:Rat)*(g-f).natAbs+r.c' f*r.c' g*(((m-l).natAbs:Rat)*(m-l).natAbs)) by grind)
 generalize r.D (g-f).natAbs=Du at*
 generalize r.D (m-l).natAbs=Dl at*
 generalize r.D b=Db at*
 generalize r.D 1=D1 at*
 generalize r.c' f*r.c' g=A at*
 generalize ((g-f).natAbs:Rat)=u at*
 generalize ((m-l).natAbs:Rat)=v at*
 generalize (b:Rat)=w at*
 grind
theorem Rg.psi_sq (r:Rg) (f g:Int) (h:0<=r.c' f*r.c' g):
  r.c' f*r.c' g*((r.s' g-r.s' f)*(r.s' g-r.s' f))<=(2-2*r.c' (g-f))*((1-r.s' f*r.s' g)*(1-r.s' f*r.s' g))/\r.c' f*r.c' g<=1-r.s' f*r.s' g:=by
 have a:=(r.z_sum g (-f)).1
 rw [(r.z_neg _).1,(r.z_neg _).2] at a
 have u:=r.z_one f
 have v:=r.z_one g
 have w:=r.z_one (g+ -f)
 have w0:=x7 (r.s' (g+ -f))
 rw [show g-f=g+ -f by omega]
 generalize r.c' (g+ -f)=C at*
 generalize r.s' (g+ -f)=S at*
 generalize r.c' f=cf at*
 generalize r.c' g=cg at*
 generalize r.s' f=sf at*
 generalize r.s' g=sg at*
 have c1:C<=1:=by
  apply Classical.byContradiction
  intro k
  have:=Rat.mul_pos (a:=C-1) (b:=C+1) (by grind) (by grind)
  grind
 have ab:cf*cg<=1-sf*sg:=by grind
 refine ⟨?_,ab⟩
 have e:(sg-sf)*(sg-sf)=(1-sf*sg-cf*cg)*(1-sf*sg+cf*cg):=by grind
 have a2:2-2*C=2-2*(cf*cg)-2*(sf*sg):=by grind
 rw [e,a2]
 have k1:=Rat.mul_nonneg (show 0<=1-sf*sg-cf*cg by grind) (Rat.mul_nonneg (show 0<=1-sf*sg-cf*cg by grind) (show 0<=2*(1-sf*sg)+cf*cg by grind))
 generalize cf*cg=A at*
 generalize sf*sg=B at*
 grind
def jK (s t:Rat):Rat:=(t-s)/(1-s*t)
theorem U9 {s t:Rat} (s0: -1<s) (s1:s<1) (t0: -1<t) (t1:t<1):0<1-s*t:=by
 have a:=Rat.mul_pos (show 0<1-s by grind) (show 0<1+t by grind)
 have b:=Rat.mul_pos (show 0<1+s by grind) (show 0<1-t by grind)
 grind
theorem JB {a b:Rat} (h:0<a) (e:b*a=0):b=0:=by
 have x:=b8 h (show 0<=a*b by grind)
 have y:=b8 h (show 0<=a* -b by grind)
 grind
theorem nF {s t:Rat} (h:0<1-s*t):jK s t*(1-s*t)=t-s:=by
 unfold jK
 exact Rat.div_mul_cancel (by grind)
theorem Z7 {s t:Rat} (s0: -1<s) (h:s<=t) (t1:t<1):0<=jK s t:=by
 have d:=U9 s0 (by grind) (show -1<t by grind) t1
 have e:=nF d
 exact b8 d (show 0<=(1-s*t)*jK s t by grind)
theorem YA {a b c:Rat} (a0: -1<a) (h1:a<=b) (h2:b<=c) (c1:c<1):jK a c<=jK a b+jK b c:=by
 have x:=U9 a0 (by grind) (show -1<b by grind) (by grind)
 have y:=U9 (show -1<b by grind) (by grind) (show -1<c by grind) c1
 have z:=U9 a0 (by grind) (show -1<c by grind) c1
 have p:=Z7 a0 h1 (by grind)
 have q:=Z7 (show -1<b by grind) h2 c1
 have r:=Z7 a0 (show a<=c by grind) c1
 have e:jK a c*(1+jK a b*jK b c)=jK a b+jK b c:=by
  have e1:=nF x
  have e2:=nF y
  have e3:=nF z
  generalize jK a b=P at*
  generalize jK b c=Q at*
  generalize jK a c=R at*
  have w:=Rat.mul_pos x (Rat.mul_pos y z)
  have f:(R*(1+P*Q)-(P+Q))*((1-a*b)*((1-b*c)*(1-a*c)))=0:=by
   have g1:R*(1+P*Q)*((1-a*b)*((1-b*c)*(1-a*c)))=(R*(1-a*c))*((1-a*b)*(1-b*c)+(P*(1-a*b))*(Q*(1-b*c))):=by grind
   have g2:(P+Q)*((1-a*b)*((1-b*c)*(1-a*c)))=((P*(1-a*b))*(1-b*c)+(Q*(1-b*c))*(1-a*b))*(1-a*c):=by grind
   rw [e1,e2,e3] at g1
   rw [e1,e2] at g2
   clear e1 e2 e3 x y z p q r w
   grind
  have:=JB w f
  grind
 have k:=Rat.mul_nonneg r (Rat.mul_nonneg p q)
 grind
def R8 (s:Nat->Rat):Nat->Rat
 |0=>0
 |n+1=>R8 s n+jK (s n) (s (n+1))
theorem a0K {s:Nat->Rat} (h:∀n,s n<=s (n+1)) (n:Nat):s 0<=s n:=by
 induction n with
 |zero=>exact Rat.le_refl
 |succ n ih=>have:=h n;grind
theorem a0s (s:Nat->Rat) (h:∀n,s n<=s (n+1)) (h0: -1<s 0) (h1:∀n,s n<1) (n:Nat):jK (s 0) (s n)<=R8 s n:=by
 induction n with
 |zero=>unfold jK R8;rw [show s 0-s 0=0 by grind,Rat.div_def,Rat.zero_mul];exact Rat.le_refl
 |succ n ih=>
  have:=YA h0 (a0K h n) (h n) (h1 _)
  unfold R8
  grind
def pw (z:Rat):Nat->Rat
 |0=>1
 |n+1=>pw z n*z
def hS (x y:Rat):Nat->Rat
 |0=>1
 |n+1=>hS x y n*x+pw y (n+1)
theorem a02 (x y:Rat) (n:Nat):hS x y n*(x-y)=pw x (n+1)-pw y (n+1):=by
 induction n with
 |zero=>simp only [hS,pw];grind
 |succ n ih=>
  simp only [hS]
  have:hS x y n*(x-y)*x=(pw x (n+1)-pw y (n+1))*x:=by rw [ih]
  simp only [pw] at*
  grind
theorem jG {x:Rat} (h:0<=x) (n:Nat):0<=pw x n:=by
 induction n with
 |zero=>simp only [pw];decide
 |succ n ih=>exact Rat.mul_nonneg ih h
theorem wF (x:Rat) (a b:Nat):pw x (a+b)=pw x a*pw x b:=by
 induction b with
 |zero=>simp only [pw,Nat.add_zero];grind
 |succ b ih=>rw [<-Nat.add_assoc];simp only [pw];rw [ih];grind
theorem a2m (x y:Rat) (a:Nat):pw (x*y) a=pw x a*pw y a:=by
 induction a with
 |zero=>simp only [pw];grind
 |succ b ih=>simp only [pw];rw [ih];grind
theorem XK (x y:Rat) (n:Nat):hS x y (n+2)=x*y*hS x y n+pw x (n+2)+pw y (n+2):=by
 induction n with
 |zero=>simp only [hS,pw];grind
 |succ n ih=>
  have e:hS x y (n+1+2)=hS x y (n+2)*x+pw y (n+3):=rfl
  rw [e,ih]
  simp only [hS,pw]
  grind
theorem a2p {x y:Rat} (hx:0<=x) (hy:0<=y) (i:Nat):(2*(i:Rat)+1)*pw (x*y) i<=hS x y (2*i):=by
 induction i with
 |zero=>simp only [hS,pw];grind
 |succ i ih=>
  rw [show 2*(i+1)=2*i+2 by omega,XK]
  have a:=Rat.mul_nonneg (Rat.mul_nonneg hx hy) (show 0<=hS x y (2*i)-(2*(i:Rat)+1)*pw (x*y) i by grind)
  have q:=x7 (pw x (i+1)-pw y (i+1))
  have e1:pw x (2*i+2)=pw x (i+1)*pw x (i+1):=by rw [<-wF];congr 1;omega
  have e2:pw y (2*i+2)=pw y (i+1)*pw y (i+1):=by rw [<-wF];congr 1;omega
  have e3:pw (x*y) (i+1)=pw x (i+1)*pw y (i+1):=a2m _ _ _
  have e4:pw (x*y) (i+1)=pw (x*y) i*(x*y):=rfl
  have a2:x*y*(hS x y (2*i)-(2*(i:Rat)+1)*pw (x*y) i)=x*y*hS x y (2*i)-(2*(i:Rat)+1)*(pw (x*y) i*(x*y)):=by grind
  rw [<-e4,e3] at a2
  rw [a2] at a
  rw [e1,e2,e3]
  push_cast
  clear e1 e2 e3 e4 ih a2
  generalize pw x (i+1)=A at*
  generalize pw y (i+1)=B at*
  generalize x*y*hS x y (2*i)=H at*
  generalize (i:Rat)=I at*
  have e:(2*(I+1)+1)*(A*B)=(2*I+1)*(A*B)+2*(A*B):=by grind
  rw [e]
  generalize (2*I+1)*(A*B)=U at*
  grind
theorem a1D {x y:Rat} (hx:0<=x) (hy:0<=y) (a b:Nat):pw x a*pw y b+pw y a*pw x b<=pw x (a+b)+pw y (a+b):=by
 have m:∀(u v:Rat),0<=u->u<=v->∀n,pw u n<=pw v n:=by
  intro u v hu h n
  induction n with
  |zero=>exact Rat.le_refl
  |succ n ih=>
   have p:=Rat.mul_nonneg hu (show 0<=pw v n-pw u n by grind)
   have q:=Rat.mul_nonneg (jG (show 0<=v by grind) n) (show 0<=v-u by grind)
   simp only [pw]
   grind
 have k:0<=(pw x a-pw y a)*(pw x b-pw y b):=by
  rcases Rat.le_total (a:=x) (b:=y) with h|h
  ·have:=Rat.mul_nonneg (show 0<=pw y a-pw x a by have:=m x y hx h a;grind) (show 0<=pw y b-pw x b by have:=m x y hx h b;grind)
   grind
  ·exact Rat.mul_nonneg (show 0<=pw x a-pw y a by have:=m y x hy h a;grind) (show 0<=pw x b-pw y b by have:=m y x hy h b;grind)
 rw [wF,wF]
 grind
theorem a0g {x y:Rat} (hx:0<=x) (hy:0<=y) (i:Nat):2*hS x y (2*i)<=(2*(i:Rat)+1)*(pw x (2*i)+pw y (2*i)):=by
 induction i with
 |zero=>simp only [hS,pw];grind
 |succ i ih=>
  rw [show 2*(i+1)=2*i+2 by omega,XK]
  have a:=Rat.mul_nonneg (Rat.mul_nonneg hx hy) (show 0<=(2*(i:Rat)+1)*(pw x (2*i)+pw y (2*i))-2*hS x y (2*i) by grind)
  have k:=a1D hx hy (2*i+1) 1
  have e1:pw x (2*i+1)=pw x (2*i)*x:=rfl
  have e2:pw y (2*i+1)=pw y (2*i)*y:=rfl
  have e3:pw x 1=x:=by simp only [pw];grind
  have e4:pw y 1=y:=by simp only [pw];grind
  have e5:x*y*(pw x (2*i)+pw y (2*i))=pw x (2*i+1)*pw y 1+pw y (2*i+1)*pw x 1:=by rw [e1,e2,e3,e4];grind
  have e6:x*y*((2*(i:Rat)+1)*(pw x (2*i)+pw y (2*i))-2*hS x y (2*i))=(2*(i:Rat)+1)*(x*y*(pw x (2*i)+pw y (2*i)))-2*(x*y*hS x y (2*i)):=by grind
  rw [e6,e5] at a
  have i0:(0:Rat)<=2*(i:Rat)+1:=by have:(0:Rat)<=i:=(by exact_mod_cast Nat.zero_le i);grind
  have k2:=Rat.mul_nonneg i0 (show 0<=(pw x (2*i+1+1)+pw y (2*i+1+1))-(pw x (2*i+1)*pw y 1+pw y (2*i+1)*pw x 1) by grind)
  rw [show 2*i+1+1=2*i+2 by omega] at k2
  push_cast
  clear e1 e2 e3 e4 e5 e6 ih k
  generalize pw x (2*i+1)*pw y 1+pw y (2*i+1)*pw x 1=U at*
  generalize pw x (2*i+2)=A at*
  generalize pw y (2*i+2)=B at*
  generalize x*y*hS x y (2*i)=H at*
  generalize (i:Rat)=I at*
  grind
def eX (z:Rat):Nat->Rat
 |0=>0
 |n+1=>eX z n+pw z (2*n+1)/(2*(n:Rat)+1)
theorem GR (n:Nat):(0:Rat)<2*(n:Rat)+1:=by
 have:(0:Rat)<=n:=by exact_mod_cast Nat.zero_le n
 grind
theorem WP {x y:Rat} (hy:0<=y) (h:y<=x) (n:Nat):(x-y)*(1-pw (x*y) n)<=(eX x n-eX y n)*(1-x*y)\/1<=x*y:=by
 by_cases g:1<=x*y
 ·exact .inr g
 refine .inl ?_
 have hx:0<=x:=by grind
 induction n with
 |zero=>simp only [eX,pw];grind
 |succ n ih=>
  have o:=GR n
  have e:=a02 x y (2*n)
  have l:=a2p hx hy n
  have d:(pw x (2*n+1)-pw y (2*n+1))/(2*(n:Rat)+1)*(2*(n:Rat)+1)=hS x y (2*n)*(x-y):=by rw [e];exact Rat.div_mul_cancel (by grind)
  have k1:=Rat.mul_nonneg (show 0<=x-y by grind) (show 0<=hS x y (2*n)-(2*(n:Rat)+1)*pw (x*y) n by grind)
  have k2:0<=(pw x (2*n+1)-pw y (2*n+1))/(2*(n:Rat)+1)-(x-y)*pw (x*y) n:=by
   refine b8 o ?_
   generalize (pw x (2*n+1)-pw y (2*n+1))/(2*(n:Rat)+1)=V at*
   grind
  have k3:=Rat.mul_nonneg k2 (show 0<=1-x*y by grind)
  have s:eX x (n+1)-eX y (n+1)=(eX x n-eX y n)+(pw x (2*n+1)-pw y (2*n+1))/(2*(n:Rat)+1):=by
   simp only [eX,Rat.div_def];grind
  rw [s,show pw (x*y) (n+1)=pw (x*y) n*(x*y) from rfl]
  generalize (pw x (2*n+1)-pw y (2*n+1))/(2*(n:Rat)+1)=V at*
  generalize eX x n-eX y n=W at*
  grind
def gS (x y:Rat):Nat->Rat
 |0=>0
 |n+1=>gS x y n+(pw x (2*n)+pw y (2*n))/2
theorem IC {x y:Rat} (hy:0<=y) (h:y<=x) (n:Nat):eX x n-eX y n<=(x-y)*gS x y n:=by
 have hx:0<=x:=by grind
 induction n with
 |zero=>simp only [eX,gS];grind
 |succ n ih=>
  have o:=GR n
  have e:=a02 x y (2*n)
  have l:=a0g hx hy n
  have d:(pw x (2*n+1)-pw y (2*n+1))/(2*(n:Rat)+1)*(2*(n:Rat)+1)=hS x y (2*n)*(x-y):=by rw [e];exact Rat.div_mul_cancel (by grind)
  have k1:=Rat.mul_nonneg (show 0<=x-y by grind) (show 0<=(2*(n:Rat)+1)*(pw x (2*n)+pw y (2*n))-2*hS x y (2*n) by grind)
  have k2:0<=(x-y)*(pw x (2*n)+pw y (2*n))-2*((pw x (2*n+1)-pw y (2*n+1))/(2*(n:Rat)+1)):=by
   refine b8 o ?_
   generalize (pw x (2*n+1)-pw y (2*n+1))/(2*(n:Rat)+1)=V at*
   grind
  have s:eX x (n+1)-eX y (n+1)=(eX x n-eX y n)+(pw x (2*n+1)-pw y (2*n+1))/(2*(n:Rat)+1):=by
   simp only [eX,Rat.div_def];grind
  rw [s]
  simp only [gS]
  generalize (pw x (2*n+1)-pw y (2*n+1))/(2*(n:Rat)+1)=V at*
  generalize eX x n-eX y n=W at*
  generalize pw x (2*n)+pw y (2*n)=U at*
  grind
theorem a1c {x y:Rat} (hx:0<=x) (hy:0<=y) (x1:x<1) (y1:y<1) (n:Nat):2*gS x y n*((1-x*x)*(1-y*y))<=(1-y*y)+(1-x*x):=by
 have P:∀n,2*gS x y n*((1-x*x)*(1-y*y))=(1-y*y)*(1-pw x (2*n))+(1-x*x)*(1-pw y (2*n)):=by
  intro n
  induction n with
  |zero=>simp only [gS,pw];grind
  |succ n ih=>
   rw [show 2*(n+1)=2*n+1+1 by omega]
   simp only [gS,pw]
   grind
 rw [P]
 have a:=Rat.mul_nonneg (show 0<=1-y*y by have:=Rat.mul_pos (show 0<1-y by grind) (show 0<1+y by grind);grind) (jG hx (2*n))
 have b:=Rat.mul_nonneg (show 0<=1-x*x by have:=Rat.mul_pos (show 0<1-x by grind) (show 0<1+x by grind);grind) (jG hy (2*n))
 grind
theorem a1W (x:Rat) (n:Nat):pw (-x) (2*n+1)= -pw x (2*n+1)/\pw (-x) (2*n)=pw x (2*n):=by
 induction n with
 |zero=>simp only [pw];constructor<;>grind
 |succ n ih=>
  rw [show 2*(n+1)+1=2*n+1+1+1 by omega,show 2*(n+1)=2*n+1+1 by omega]
  simp only [pw] at*
  constructor<;>grind
theorem qX (x:Rat) (n:Nat):eX (-x) n= -eX x n:=by
 induction n with
 |zero=>simp only [eX];grind
 |succ n ih=>simp only [eX];rw [ih,(a1W x n).1,Rat.div_def,Rat.div_def];grind
theorem xT {x:Rat} (h0:0<=x) (h1:x<=1/9) (n:Nat):pw x n<=pw (1/9) n:=by
 induction n with
 |zero=>exact Rat.le_refl
 |succ n ih=>
  have a:=Rat.mul_le_mul_of_nonneg_right ih h0
  have b:=Rat.mul_le_mul_of_nonneg_left h1 (jG (show (0:Rat)<=1/9 by decide+kernel) n)
  simp only [pw]
  grind
theorem a1e:pw (1/9) 64<=1/2^200:=by decide+kernel
def I9 (x:Rat):Rat:=eX x 64
def yI (x y:Rat):Prop:=(x-y)*(1-1/2^36)<=(I9 x-I9 y)*(1-x*y)/\(I9 x-I9 y)*(1-x*y)<=(x-y)*(1+1/2^36)
theorem jB {x y:Rat} (hy:0<=y) (h:y<=x) (hx:x<=1/3) (hd:x-y<=1/2^19):yI x y:=by
 have x0:0<=x:=by grind
 have l:=WP hy h 64
 have u:=IC hy h 64
 have g:=a1c x0 hy (by grind) (by grind) 64
 have xy0:=Rat.mul_nonneg x0 hy
 have xy9:x*y<=1/9:=by
  have a:=Rat.mul_nonneg x0 (show 0<=1/3-y by grind)
  grind
 have p:=Rat.le_trans (xT xy0 xy9 64) a1e
 have l2:(x-y)*(1-pw (x*y) 64)<=(eX x 64-eX y 64)*(1-x*y):=by
  rcases l with l|l
  ·exact l
  ·exfalso;grind
 clear l
 have e36:(1:Rat)/2^200<=1/2^36:=by decide+kernel
 have e19:(1:Rat)/2^19*(1/2^19)*3<=1/2^36:=by decide+kernel
 have e19p:(0:Rat)<=1/2^19:=by decide+kernel
 unfold yI I9
 generalize eX x 64-eX y 64=A at*
 generalize gS x y 64=G at*
 generalize pw (x*y) 64=P at*
 generalize (1:Rat)/2^36=E at*
 generalize (1:Rat)/2^200=E2 at*
 generalize (1:Rat)/2^19=d at*
 constructor
 ·have:=Rat.mul_nonneg (show 0<=x-y by grind) (show 0<=E-P by grind)
  grind
 ·
  have dd:(x-y)*(x-y)*3<=E:=by
   have a:=Rat.mul_le_mul_of_nonneg_left hd (show 0<=x-y by grind)
   have b:=Rat.mul_le_mul_of_nonneg_right hd e19p
   grind
  have ux:8/9<=1-x*x:=by have:=Rat.mul_nonneg (show 0<=1/3-x by grind) (show 0<=1/3+x by grind);grind
  have uy:8/9<=1-y*y:=by have:=Rat.mul_nonneg (show 0<=1/3-y by grind) (show 0<=1/3+y by grind);grind
  have q:0<(1-x*x)*(1-y*y):=Rat.mul_pos (by grind) (by grind)
  have q2:3/4<=(1-x*x)*(1-y*y):=by have:=Rat.mul_nonneg (show 0<=1-x*x-8/9 by grind) (show 0<=1-y*y-8/9 by grind);grind
  have e0:0<=E:=by have:=x7 (x-y);grind
  have key:G*(1-x*y)<=1+E:=by
   have m:=Rat.mul_le_mul_of_nonneg_right g (show 0<=1-x*y by grind)
   have i1:((1-y*y)+(1-x*x))*(1-x*y)=2*((1-x*x)*(1-y*y))+(x-y)*(x-y)*(1+x*y):=by grind
   rw [i1] at m
   have n1:=Rat.mul_nonneg e0 (show 0<=(1-x*x)*(1-y*y)-3/4 by grind)
   have n2:=Rat.mul_nonneg (x7 (x-y)) (show 0<=1/9-x*y by grind)
   have k:0<=((1-x*x)*(1-y*y))*(1+E-G*(1-x*y)):=by
    generalize (1-x*x)*(1-y*y)=Q at*
    generalize (x-y)*(x-y)=D at*
    grind
   have:=b8 q k
   grind
  have a:=Rat.mul_le_mul_of_nonneg_right u (show 0<=1-x*y by grind)
  have b:=Rat.mul_le_mul_of_nonneg_left key (show 0<=x-y by grind)
  grind
theorem a0F:I9 0=0:=by decide+kernel
theorem TO {x y:Rat} (hy: -(1/3)<=y) (h:y<=x) (hx:x<=1/3) (hd:x-y<=1/2^19):
  (x-y)*(1-1/2^35)<=(I9 x-I9 y)*(1-x*y)/\(I9 x-I9 y)*(1-x*y)<=(x-y)*(1+1/2^35):=by
 have e1:(1:Rat)/2^36<=1/2^35:=by decide+kernel
 have e2:(0:Rat)<=1/2^36:=by decide+kernel
 have e3:(1:Rat)/2^19*(1/2^19)*3<=1/2^36:=by decide+kernel
 have e4:(0:Rat)<=1/2^19:=by decide+kernel
 have e5:(1:Rat)/2^36+1/2^36=1/2^35:=by decide+kernel
 have E1:(1:Rat)/2^36<=1/10:=by decide+kernel
 by_cases y0:0<=y
 ·have g:=jB y0 h hx hd
  unfold yI at g
  generalize (1:Rat)/2^36=E at*
  generalize (1:Rat)/2^35=F at*
  have:=Rat.mul_nonneg (show 0<=x-y by grind) (show 0<=F-E by grind)
  constructor<;>grind
 ·by_cases x0:x<=0
  ·have g:=jB (x:= -y) (y:= -x) (by grind) (by grind) (by grind) (by grind)
   unfold yI at g
   have a1:I9 (-y)= -I9 y:=qX y 64
   have a2:I9 (-x)= -I9 x:=qX x 64
   rw [a1,a2] at g
   generalize (1:Rat)/2^36=E at*
   generalize (1:Rat)/2^35=F at*
   have:=Rat.mul_nonneg (show 0<=x-y by grind) (show 0<=F-E by grind)
   constructor<;>grind
  ·have g1:=jB (x:=x) (y:=0) Rat.le_refl (by grind) hx (by grind)
   have g2:=jB (x:= -y) (y:=0) Rat.le_refl (by grind) (by grind) (by grind)
   have a1:I9 (-y)= -I9 y:=qX y 64
   unfold yI at g1 g2
   rw [a0F] at g1 g2
   rw [a1] at g2
   generalize (1:Rat)/2^36=E at*
   generalize (1:Rat)/2^35=F at*
   generalize (1:Rat)/2^19=d at*
   have xy:0<=x* -y:=Rat.mul_nonneg (by grind) (by grind)
   have xyd:x* -y*3<=E:=by
    have a:=Rat.mul_le_mul_of_nonneg_left (show -y<=d by grind) (show 0<=x by grind)
    have b:=Rat.mul_le_mul_of_nonneg_right (show x<=d by grind) e4
    have c:=Rat.mul_nonneg e4 e4
    grind
   generalize I9 x=A at*
   generalize I9 y=B at*
   have s1:(x-y)*(1-E)<=A-B:=by grind
   have s2:A-B<=(x-y)*(1+E):=by grind
   have n0:0<=A-B:=by have:=Rat.mul_nonneg (show 0<=x-y by grind) (show 0<=1-E by grind);grind
   have xe:x*y= -(x* -y):=by grind
   rw [xe]
   generalize x* -y=t at*
   generalize A-B=Δ at*
   have D0:0<=x-y:=by grind
   generalize x-y=D at*
   clear g1 g2 a1 xe
   have m1:=Rat.mul_nonneg n0 xy
   have m4:=Rat.mul_nonneg (show 0<=D*(1+E)-Δ by grind) xy
   have m5:=Rat.mul_nonneg D0 e2
   have m6:=Rat.mul_nonneg m5 (show 0<=1/10-E by grind)
   have m7:=Rat.mul_nonneg D0 (show 0<=E-t*3 by grind)
   have m8:=Rat.mul_nonneg m5 (show 0<=E-t*3 by grind)
   subst e5
   constructor<;>grind
def zf (v:Rat):Rat:=(v-1)/(v+1)
theorem vP {v:Rat} (h:0<v):zf v*(v+1)=v-1:=Rat.div_mul_cancel (by grind)
theorem TC {v:Rat} (h0:3/4<=v) (h1:v<=3/2): -(1/3)<=zf v/\zf v<=1/3:=by
 have e:=vP (v:=v) (by grind)
 constructor
 ·have:=b8 (show 0<v+1 by grind) (show 0<=(v+1)*(zf v+1/3) by grind)
  grind
 ·have:=b8 (show 0<v+1 by grind) (show 0<=(v+1)*(1/3-zf v) by grind)
  grind
def cG (d v u:Rat) (e:Rat):Prop:=(u-v)*(1-e)<=d*(u+v)/\d*(u+v)<=(u-v)*(1+e)
theorem wI {v u:Rat} (h0:3/4<=v) (h:v<=u) (h1:u<=3/2) (hd:u-v<=v*(1/2^18)):cG (I9 (zf u)-I9 (zf v)) v u (1/2^35):=by
 have bv:=TC h0 (by grind)
 have bu:=TC (by grind) h1
 have ev:=vP (v:=v) (by grind)
 have eu:=vP (v:=u) (by grind)
 have p:0<(u+1)*(v+1):=Rat.mul_pos (by grind) (by grind)
 have s1:(zf u-zf v)*((u+1)*(v+1))=2*(u-v):=by
  have:(zf u-zf v)*((u+1)*(v+1))=zf u*(u+1)*(v+1)-zf v*(v+1)*(u+1):=by grind
  rw [this,eu,ev];grind
 have s2:(1-zf u*zf v)*((u+1)*(v+1))=2*(u+v):=by
  have:(1-zf u*zf v)*((u+1)*(v+1))=(u+1)*(v+1)-zf u*(u+1)*(zf v*(v+1)):=by grind
  rw [this,eu,ev];grind
 have le:zf v<=zf u:=by
  have:=b8 p (show 0<=((u+1)*(v+1))*(zf u-zf v) by grind)
  grind
 have sm:zf u-zf v<=1/2^19:=by
  have e:(1:Rat)/2^18=2*(1/2^19)/\(0:Rat)<=1/2^19:=by decide+kernel
  rw [e.1] at hd
  have e2:=e.2
  clear e
  generalize (1:Rat)/2^19=c at*
  have q:=Rat.mul_nonneg e2 (x7 (v-1))
  have q2:=Rat.mul_nonneg (Rat.mul_nonneg e2 (show 0<=u-v by grind)) (show 0<=v+1 by grind)
  have:=b8 p (show 0<=((u+1)*(v+1))*(c-(zf u-zf v)) by grind)
  grind
 have g:=TO bv.1 le bu.2 sm
 have e35:(0:Rat)<=1/2^35/\(1:Rat)/2^35<=1:=by decide+kernel
 unfold cG
 generalize I9 (zf u)-I9 (zf v)=A at*
 generalize (1:Rat)/2^35=E at*
 have m1:=Rat.mul_le_mul_of_nonneg_right g.1 (Rat.le_of_lt p)
 have m2:=Rat.mul_le_mul_of_nonneg_right g.2 (Rat.le_of_lt p)
 have i1:(zf u-zf v)*(1-E)*((u+1)*(v+1))=(zf u-zf v)*((u+1)*(v+1))*(1-E):=by grind
 have i2:(zf u-zf v)*(1+E)*((u+1)*(v+1))=(zf u-zf v)*((u+1)*(v+1))*(1+E):=by grind
 have i3:A*(1-zf u*zf v)*((u+1)*(v+1))=A*((1-zf u*zf v)*((u+1)*(v+1))):=by grind
 rw [i1,i3,s1,s2] at m1
 rw [i2,i3,s1,s2] at m2
 clear s1 s2 i1 i2 i3 ev eu g
 constructor<;>grind
theorem MU {d1 d2 v w u:Rat} (v0:0<v) (h1:v<=w) (h2:w<=u) (hs2:u-v<=v*(1/2^18)) (g1:cG d1 v w (1/2^35)) (g2:cG d2 w u (1/2^35)):cG (d1+d2) v u (1/2^34):=by
 obtain ⟨p,hp⟩:∃p,p=(w-v)/(w+v):=⟨_,rfl⟩
 obtain ⟨q,hq⟩:∃q,q=(u-w)/(u+w):=⟨_,rfl⟩
 have ep:p*(w+v)=w-v:=by rw [hp];exact Rat.div_mul_cancel (by grind)
 have eq:q*(u+w)=u-w:=by rw [hq];exact Rat.div_mul_cancel (by grind)
 clear hp hq
 have wv:0<w+v:=by grind
 have uw:0<u+w:=by grind
 have p0:0<=p:=b8 wv (by grind)
 have q0:0<=q:=b8 uw (by grind)
 have e18:(0:Rat)<=1/2^18/\(1:Rat)/2^18*(1/2^18)<=1/2^35/2/\(1:Rat)/2^35<=1/10/\(1:Rat)/2^35+1/2^35=1/2^34/\(0:Rat)<=1/2^35:=by decide+kernel
 unfold cG at*
 generalize (1:Rat)/2^18=c at*
 generalize (1:Rat)/2^35=E at*
 generalize (1:Rat)/2^34=F at*
 have pc:p<=c:=by
  have:=Rat.mul_nonneg e18.1 (show 0<=w by grind)
  have:=b8 wv (show 0<=(w+v)*(c-p) by grind)
  grind
 have qc:q<=c:=by
  have:=Rat.mul_nonneg e18.1 (show 0<=w-v by grind)
  have:=Rat.mul_nonneg e18.1 (show 0<=u by grind)
  have:=b8 uw (show 0<=(u+w)*(c-q) by grind)
  grind
 have pq0:=Rat.mul_nonneg p0 q0
 have pq:p*q<=E/2:=by
  have a:=Rat.mul_le_mul_of_nonneg_left qc p0
  have b:=Rat.mul_le_mul_of_nonneg_right pc e18.1
  grind
 have key:(p+q)*(u+v)=(u-v)*(1+p*q):=by grind
 rw [<-ep] at g1
 rw [<-eq] at g2
 have l1:p*(1-E)<=d1:=by
  have:=b8 wv (show 0<=(w+v)*(d1-p*(1-E)) by grind)
  grind
 have l2:d1<=p*(1+E):=by
  have:=b8 wv (show 0<=(w+v)*(p*(1+E)-d1) by grind)
  grind
 have l3:q*(1-E)<=d2:=by
  have:=b8 uw (show 0<=(u+w)*(d2-q*(1-E)) by grind)
  grind
 have l4:d2<=q*(1+E):=by
  have:=b8 uw (show 0<=(u+w)*(q*(1+E)-d2) by grind)
  grind
 have uv:0<=u+v:=by grind
 have m1:=Rat.mul_nonneg (show 0<=d1+d2-(p+q)*(1-E) by grind) uv
 have m2:=Rat.mul_nonneg (show 0<=(p+q)*(1+E)-(d1+d2) by grind) uv
 have i1:(d1+d2-(p+q)*(1-E))*(u+v)=(d1+d2)*(u+v)-(p+q)*(u+v)*(1-E):=by grind
 have i2:((p+q)*(1+E)-(d1+d2))*(u+v)=(p+q)*(u+v)*(1+E)-(d1+d2)*(u+v):=by grind
 rw [i1,key] at m1
 rw [i2,key] at m2
 have e18e:=e18.2.2.2.1
 have e18f:=e18.2.2.2.2
 have e18g:=e18.2.2.1
 clear i1 i2 key l1 l2 l3 l4 ep eq g1 g2 pc qc hs2 e18
 have D0:0<=u-v:=by grind
 generalize (d1+d2)*(u+v)=X at*
 generalize p*q=t at*
 generalize u-v=D at*
 have n1:=Rat.mul_nonneg D0 pq0
 have n2:=Rat.mul_nonneg D0 (show 0<=E/2-t by grind)
 have n3:=Rat.mul_nonneg n1 (show 0<=1-E by grind)
 have n4:=Rat.mul_nonneg n2 (show 0<=1+E by grind)
 have n5:=Rat.mul_nonneg (Rat.mul_nonneg D0 e18f) (show 0<=1/10-E by grind)
 have n6:=Rat.mul_nonneg D0 e18f
 subst e18e
 constructor<;>grind
theorem WI: -(1/2^150)<=I9 (1/3)-I9 (1/7)-I9 (1/5)/\I9 (1/3)-I9 (1/7)-I9 (1/5)<=1/2^150:=by decide+kernel
end Go.Proofs.YtdhbeoahpfimbaaGreat
