/- Part of the proof of TopDistances. -/
import Derived.Test.YtdhbeoahpfimbaaGreatTg
import Derived.Test.YtdhbeoahpfimbaaGreatPb
namespace Go.Proofs.YtdhbeoahpfimbaaGreat
open Go.RowKit Rot
theorem DM:o6=2^256:=by decide
theorem a1H:piW=aD:=by decide
theorem zK (n:Int):G5 n*10800000<=aD*n/\aD*n<G5 n*10800000+10800000:=by
 unfold G5
 rw [a1H]
 omega
theorem IB (A B:Int) (a0:0<=A) (a1:A<o6) (b0:0<=B) (b1:B<o6):R4 A B<=A:=by
 have mn:=(bC A B a0 a1 b0 b1).2.2.1
 have h1:A*B<=A*o6:=Int.mul_le_mul_of_nonneg_left (Int.le_of_lt b1) a0
 exact Int.le_of_mul_le_mul_right (Int.le_trans mn h1) gK
theorem FJ (Y odd:Int) (m:Nat) (y0:0<=Y) (y1:Y<o6) (ho:odd=0\/odd=1) (hm:m<34):
  ∃t,t*2^256<=Y/dT odd (34-m)*L9 Y odd m/\Y/dT odd (34-m)*L9 Y odd m<t*2^256+2*2^256/\L9 Y odd (m+1)=Y/dT odd (34-m)-t/\0<=t:=by
 have d0:1<=dT odd (34-m):=by
  obtain ⟨k,hk⟩:∃k:Nat,34-m=k:=⟨_,rfl⟩
  rw [hk]
  unfold dT
  have a1:1<=2*(k:Int)-1+odd:=by omega
  have b1:1<=2*(k:Int)+odd:=by omega
  have:=Int.mul_le_mul a1 b1 (by omega) (by omega)
  omega
 have q0:0<=Y/dT odd (34-m):=Int.ediv_nonneg y0 (by omega)
 have q1:Y/dT odd (34-m)<o6:=by
  have:=Int.ediv_le_self (dT odd (34-m)) y0
  omega
 have ub:=lT Y odd m
 have mn:=bC (Y/dT odd (34-m)) (L9 Y odd m) q0 q1 ub.1 ub.2
 rw [DM] at mn
 refine ⟨R4 (Y/dT odd (34-m)) (L9 Y odd m),mn.2.2.1,mn.2.2.2,?_,mn.1⟩
 have e:L9 Y odd (m+1)=(Y/dT odd (34-m)-R4 (Y/dT odd (34-m)) (L9 Y odd m))%o6:=rfl
 rw [e]
 apply Int.emod_eq_of_lt
 ·have:=IB _ _ q0 q1 ub.1 ub.2
  omega
 ·omega
theorem tL (odd n:Int) (ho:odd=0\/odd=1) (n0:0<=n) (n1:n<=2700000):
  -(2^168*qN odd 12)<=cY (G5 n) odd*qN odd 12-2^256*aN odd n 12/\cY (G5 n) odd*qN odd 12-2^256*aN odd n 12<=2^168*qN odd 12:=by
 have X:=oW n n0 n1
 have Yb:=bC (G5 n) (G5 n) X.1 X.2 X.1 X.2
 have r:=zK n
 have s:=fun (j:Nat) (hj:j<34)=>FJ (R4 (G5 n) (G5 n)) odd j Yb.1 Yb.2.1 ho hj
 refine zE odd n (G5 n) (R4 (G5 n) (G5 n)) (fun j=>L9 (R4 (G5 n) (G5 n)) odd (22+j)) ho n0 n1 r.1 r.2 X.1 (by rw [<-DM];exact Yb.2.2.1) (by rw [<-DM];exact Yb.2.2.2) Yb.1 ?_ ?_ ?_
 ·intro j _
  have:=lT (R4 (G5 n) (G5 n)) odd (22+j)
  rw [DM] at this
  exact ⟨this.1,Int.le_of_lt this.2⟩
 ·obtain ⟨t,_,_,e,t0⟩:=s 21 (by omega)
  show L9 _ odd (21+1)<=_
  rw [e]
  have d:dT odd (34-21)=650\/dT odd (34-21)=702:=by rcases ho with rfl|rfl<;>decide
  have y:=Yb.2.1
  rw [DM] at y
  generalize R4 (G5 n) (G5 n)=Y at*
  rcases d with d|d<;>rw [d]<;>omega
 ·intro j hj
  obtain ⟨t,h1,h2,h3,_⟩:=s (22+j) (by omega)
  rw [show 34-(22+j)=12-j by omega] at h1 h2 h3
  exact ⟨t,h1,h2,h3⟩
theorem YR (n:Nat) (n0:1<=n) (n1:n<=2700000):eC n<=2^128-2^83:=by
 obtain ⟨k,rfl⟩:∃k,n=k+1:=⟨n-1,by omega⟩
 have a:=jR k (by omega)
 have b:=wU k (by omega)
 omega
theorem KV (L q A z B e c:Int) (hz:z=25*B*q) (z0:0<z) (B0:0<=B) (hc:c=25*B*(q-A)) (l1: -(2^168*q)<=L*q-2^256*A) (l2:L*q-2^256*A<=2^168*q)
  (p1: -(z*2^40)<=z*e-2^128*c) (p2:z*e-2^128*c<=z*2^40) (he:e<=2^128-2^83):
  0<L/\ -(2^170)<=2^256-L-2^128*e/\2^256-L-2^128*e<=2^170:=by
 have k1:=JL (show (0:Int)<=25*B by omega) l1 l2
 have k2:25*B*(L*q-2^256*A)=z*L-2^256*z+2^256*c:=by rw [hz,hc];grind
 have k3:25*B*(2^168*q)=2^168*z:=by rw [hz];grind
 rw [Int.mul_neg,k2,k3] at k1
 have k4:z*e<=z*(2^128-2^83):=Int.mul_le_mul_of_nonneg_left he (by omega)
 clear hz hc l1 l2 k2 k3
 refine ⟨?_,?_,?_⟩
 ·apply Int.lt_of_mul_lt_mul_left (a:=z) _ (by omega)
  rw [Int.mul_zero]
  generalize z*L=a at*
  generalize z*e=b at*
  omega
 ·apply Int.le_of_mul_le_mul_left _ z0
  rw [Int.mul_sub,Int.mul_sub,Int.mul_neg,Int.mul_left_comm z]
  generalize z*L=a at*
  generalize z*e=b at*
  omega
 ·apply Int.le_of_mul_le_mul_left _ z0
  rw [Int.mul_sub,Int.mul_sub,Int.mul_left_comm z]
  generalize z*L=a at*
  generalize z*e=b at*
  omega
theorem a0B (L:Int) (h0:0<L) (h1:L<o6):(0-L)%o6=2^256-L:=by
 rw [DM] at*
 omega
theorem PV (n:Nat) (n0:1<=n) (n1:n<=2700000): -(2^170)<=OQ n-2^128*eC n/\OQ n-2^128*eC n<=2^170:=by
 have l:=tL 0 n (Or.inl rfl) (by omega) (by omega)
 have p:=(mC n n1).2
 have k:=KV _ _ _ zN bN (eC n) (cN n) a01 rD (by decide) rfl l.1 l.2 p.1 p.2 (YR n n0 n1)
 have e:OQ n=2^256-cY (G5 n) 0:=a0B _ k.1 (lK (G5 n) 0).2
 rw [e]
 exact k.2
theorem OP (S z s e:Int) (z0:0<z) (h1: -((3+2^168)*z)<=S*z-2^256*s) (h2:S*z-2^256*s<=(3+2^168)*z) (p1: -(z*2^40)<=z*e-2^128*s) (p2:z*e-2^128*s<=z*2^40):
  -(2^170)<=S-2^128*e/\S-2^128*e<=2^170:=by
 have f:z*(S-2^128*e)=S*z-2^128*(z*e):=by grind
 constructor
 ·apply Int.le_of_mul_le_mul_left _ z0
  rw [f]
  generalize S*z=a at*
  generalize z*e=b at*
  omega
 ·apply Int.le_of_mul_le_mul_left _ z0
  rw [f]
  generalize S*z=a at*
  generalize z*e=b at*
  omega
theorem a1K (n:Int) (n0:0<=n) (n1:n<=2700000):0<=aD*n/\aD*n<=bN:=by unfold aD bN;omega
theorem a14 (n:Int): -(1*bN)<=G5 n*bN-2^256*(aD*n)/\G5 n*bN-2^256*(aD*n)<=1*bN:=by
 have r:=zK n
 generalize G5 n=x at*
 generalize aD*n=y at*
 unfold bN
 omega
theorem KX (a b:Int) (h0:0<=b) (h1:b<=a) (h2:a<o6):(a-b)%o6=a-b:=Int.emod_eq_of_lt (by omega) (by omega)
theorem QW (n:Nat) (n1:n<=2700000): -(2^170)<=NA n-2^128*eS n/\NA n-2^128*eS n<=2^170:=by
 have l:=tL 1 n (Or.inr rfl) (by omega) (by omega)
 have p:=(mC n n1).1
 have lb:=lK (G5 n) 1
 have X:=oW n (by omega) (by omega)
 have mn:=bC (G5 n) (cY (G5 n) 1) X.1 X.2 lb.1 lb.2
 have ml:=IB (G5 n) (cY (G5 n) 1) X.1 X.2 lb.1 lb.2
 have e:NA n=G5 n-R4 (G5 n) (cY (G5 n) 1):=KX _ _ mn.1 ml X.2
 have xb:=a1K n (by omega) (by omega)
 have rb:=a14 n
 rw [DM] at lb mn
 have h:=a3n (2^256) (aD*n) bN (G5 n) 1 (cY (G5 n) 1) (NA n) (G5 n) (R4 (G5 n) (cY (G5 n) 1)) (qN 1 12) (aN 1 n 12) 1 (2^168) (3+2^168)
  (by decide) (by decide) (by decide) (DN 1 12 (by decide) (by decide)) xb.1 xb.2 lb.1 (Int.le_of_lt lb.2) (by decide) (by decide) (by rw [Int.mul_one];exact Int.le_refl _) (by rw [Int.mul_one];exact Int.lt_succ _) mn.2.2.1 mn.2.2.2 e
  rb l (by decide)
 have k1:(1:Int)*bN*qN 1 12=zN:=by rw [Int.one_mul];rfl
 have k2:aD*n*(qN 1 12-aN 1 n 12)=sN n:=rfl
 rw [k1,k2] at h
 exact OP _ _ _ _ rD h.1 h.2 p.1 p.2
theorem a17 (n:Int):K7 n=oL n:=rfl
theorem NO (r:Int) (h0:0<=r) (h1:r<5400000): -(2^170)<=mD r-2^128*gS r/\mD r-2^128*gS r<=2^170:=by
 unfold mD gS
 by_cases h:r<=2700000
 ·rw [if_pos (by omega),if_pos h]
  have:=QW r.toNat (by omega)
  rw [show ((r.toNat:Nat):Int)=r by omega] at this
  exact this
 ·rw [if_neg (by omega),if_neg h]
  have:=PV (5400000-r).toNat (by omega) (by omega)
  rw [show (((5400000-r).toNat:Nat):Int)=5400000-r by omega] at this
  exact this
theorem EC: -(2^26)<=gS 1800000-2^127/\gS 1800000-2^127<=2^26:=by
 have h:=LX
 have e:=cI 1800000 (by omega)
 rw [show (1800000:Int)=((1800000:Nat):Int) by rfl,e]
 unfold eS
 rw [ZM]
 omega
theorem kE (r:Int) (h0:0<=r) (h1:r<=5400000):K3 r*2^98<=gS r+2^42/\gS r<=wO r*2^98+2^42:=by
 cases h:O7 r
 ·have k:¬r=0/\¬r=1800000/\¬r=5400000:=by
   unfold O7 at h;simp at h;omega
  have s:=NO r h0 (by omega)
  have b:=wH r
  unfold wO
  rw [h]
  unfold K3 G9
  rw [if_neg k.1,if_neg k.2.1,if_neg k.2.2]
  simp only [Bool.false_eq_true,if_false]
  generalize mD r=x at*
  generalize gS r=y at*
  omega
 ·have k:r=0\/r=1800000\/r=5400000:=by
   unfold O7 at h;simp at h;omega
  unfold wO
  rw [h,if_pos rfl]
  rcases k with rfl|rfl|rfl
  ·rw [lB];decide
  ·have t:=EC
   have e:K3 1800000=536870912:=rfl
   rw [e]
   omega
  ·rw [fJ];decide
theorem PS (n:Int):T6 n*2^98<=iS n+2^42/\iS n<=T8 n*2^98+2^42:=by
 have r:=vS n
 have s:=kE (K7 n) r.1 r.2
 unfold T6 T8 iS
 rw [a17] at*
 split<;>omega
open Go.RowKit
theorem Y9 (n:Int):K9 n n=T6 n/\K8 n n=T8 n:=by
 constructor
 ·unfold K9
  split
  ·rename_i h
   unfold dC at h
   simp at h
   have e:n%21600000=16200000:=by omega
   have r:K7 n=5400000:=by unfold K7;rw [e];rfl
   unfold T6;rw [r,if_pos (by omega)];rfl
  ·omega
 ·unfold K8
  split
  ·rename_i h
   unfold dC at h
   simp at h
   have e:n%21600000=5400000:=by omega
   have r:K7 n=5400000:=by unfold K7;rw [e];rfl
   unfold T8;rw [r,if_neg (by omega)];rfl
  ·omega
theorem up0:K3 0=0/\wO 0=0:=⟨rfl,rfl⟩
theorem NL {n:Int} (h:n%21600000=0\/n%21600000=10800000):K7 n=0:=by
 unfold K7
 rcases h with h|h<;>rw [h]<;>rfl
theorem jO {n:Int} (h:n%21600000=0\/n%21600000=10800000):T6 n=0/\T8 n=0:=by
 have r:=NL h
 unfold T6 T8
 rw [r,up0.1,up0.2]
 constructor<;>split<;>rfl
theorem VC {n m:Int} (h:K7 n=K7 m) (h1:10800000<n%21600000↔¬10800000<m%21600000):T6 n= -T8 m/\T8 n= -T6 m:=by
 unfold T6 T8
 rw [h]
 by_cases g:10800000<m%21600000
 ·have g2:¬10800000<n%21600000:=fun k=>(h1.1 k) g
  rw [if_pos g,if_pos g,if_neg g2,if_neg g2]
  omega
 ·have g2:10800000<n%21600000:=h1.2 g
  rw [if_neg g,if_neg g,if_pos g2,if_pos g2]
  omega
theorem SZ {n m:Int} (h:K7 n=K7 m) (h1:10800000<n%21600000↔10800000<m%21600000):T6 n=T6 m/\T8 n=T8 m:=by
 unfold T6 T8
 rw [h]
 by_cases g:10800000<m%21600000
 ·have g2:10800000<n%21600000:=h1.2 g
  rw [if_pos g,if_pos g,if_pos g2,if_pos g2]
  exact ⟨rfl,rfl⟩
 ·have g2:¬10800000<n%21600000:=fun k=>g (h1.1 k)
  rw [if_neg g,if_neg g,if_neg g2,if_neg g2]
  exact ⟨rfl,rfl⟩
theorem xU (n:Int):T6 (-n)= -T8 n/\T8 (-n)= -T6 n:=by
 by_cases z:n%21600000=0\/n%21600000=10800000
 ·have a:=jO z
  have b:=jO (n:= -n) (by omega)
  omega
 ·apply VC
  ·unfold K7;repeat' split
   all_goals omega
  ·omega
theorem RJ (n:Int):T6 (n+10800000)= -T8 n/\T8 (n+10800000)= -T6 n:=by
 by_cases z:n%21600000=0\/n%21600000=10800000
 ·have a:=jO z
  have b:=jO (n:=n+10800000) (by omega)
  omega
 ·apply VC
  ·unfold K7;repeat' split
   all_goals omega
  ·omega
theorem lJ (n:Int):T6 (10800000-n)=T6 n/\T8 (10800000-n)=T8 n:=by
 by_cases z:n%21600000=0\/n%21600000=10800000
 ·have a:=jO z
  have b:=jO (n:=10800000-n) (by omega)
  omega
 ·apply SZ
  ·unfold K7;repeat' split
   all_goals omega
  ·omega
theorem GJ (n k:Int):T6 (n+k*21600000)=T6 n/\T8 (n+k*21600000)=T8 n:=by
 have e:(n+k*21600000)%21600000=n%21600000:=by omega
 apply SZ
 ·unfold K7;rw [e]
 ·rw [e]
theorem kB (r:Int) (h0:0<=r) (h1:r<5400000):K3 r<wO (r+1):=by
 have g:=a1T r h0 h1
 have a:=kE r h0 (by omega)
 have b:=kE (r+1) (by omega) (by omega)
 generalize K3 r=x at*
 generalize wO (r+1)=y at*
 generalize gS r=u at*
 generalize gS (r+1)=v at*
 omega
theorem BJ (r:Int) (h0:0<=r) (h1:r<5400000):K3 r<=K3 (r+1)/\wO r<=wO (r+1):=by
 have s:=kB r h0 h1
 have a:wO r=if O7 r then K3 r else K3 r+1:=rfl
 have b:wO (r+1)=if O7 (r+1) then K3 (r+1) else K3 (r+1)+1:=rfl
 constructor
 ·cases h:O7 (r+1)<;>rw [h] at b<;>simp at b<;>omega
 ·cases h:O7 r<;>rw [h] at a<;>simp at a<;>omega
theorem a1X (n:Int) (h:n%21600000<5400000\/16200000<=n%21600000):T6 n<=T6 (n+1)/\T8 n<=T8 (n+1):=by
 rcases h with h|h
 ·have r1:K7 n=n%21600000:=by
   unfold K7;repeat' split
   all_goals omega
  have r2:K7 (n+1)=n%21600000+1:=by
    unfold K7;repeat' split
    all_goals omega
  have m:=BJ (n%21600000) (by omega) h
  unfold T6 T8
  rw [r1,r2,if_neg (by omega),if_neg (by omega),if_neg (by omega),if_neg (by omega)]
  exact m
 ·by_cases e:n%21600000=21599999
  ·have r1:K7 n=1:=by unfold K7;rw [e];rfl
   have z:=jO (n:=n+1) (by omega)
   have s:=lQ 1 (by omega) (by omega)
   have u:=SR 1 (by omega)
   rw [z.1,z.2]
   unfold T6 T8
   rw [r1,if_pos (by omega),if_pos (by omega)]
   omega
  ·have r1:K7 n=21600000-n%21600000:=by
    unfold K7;repeat' split
    all_goals omega
   have r2:K7 (n+1)=21600000-n%21600000-1:=by
     unfold K7;repeat' split
     all_goals omega
   have m:=BJ (21600000-n%21600000-1) (by omega) (by omega)
   rw [show 21600000-n%21600000-1+1=21600000-n%21600000 by omega] at m
   unfold T6 T8
   rw [r1,r2,if_pos (by omega),if_pos (by omega),if_pos (by omega),if_pos (by omega)]
   omega
theorem YK (c m:Int) (hc:c%21600000=16200000) (h0:c<=m) (k:Nat) (h1:m+k<=c+10800000):T6 m<=T6 (m+k)/\T8 m<=T8 (m+k):=by
 induction k with
 |zero=>simp
 |succ k ih=>
  have a:=ih (by omega)
  have b:=a1X (m+k) (by omega)
  rw [show m+((k+1:Nat):Int)=m+k+1 by omega]
  omega
theorem a0D (c m n:Int) (hc:c%21600000=16200000) (h0:c<=m) (h1:m<=n) (h2:n<=c+10800000):T6 m<=T6 n/\T8 m<=T8 n:=by
 have:=YK c m hc h0 (n-m).toNat (by omega)
 rw [show m+((n-m).toNat:Int)=n by omega] at this
 exact this
theorem DG (c m n:Int) (hc:c%21600000=5400000) (h0:c<=m) (h1:m<=n) (h2:n<=c+10800000):T6 n<=T6 m/\T8 n<=T8 m:=by
 have a:=a0D (10800000-(c+10800000)) (10800000-n) (10800000-m) (by omega) (by omega) (by omega) (by omega)
 have p:=lJ m
 have q:=lJ n
 rw [p.1,p.2,q.1,q.2] at a
 exact a
theorem YT (c m n:Int) (hc:c%21600000=16200000) (h0:c+10800000<=m) (h1:m<=n) (h2:n<=c+21600000):T6 n<=T6 m/\T8 n<=T8 m:=DG (c+10800000) m n (by omega) h0 h1 (by omega)
theorem uO (a b n:Int) (h0:a<=n) (h1:n<=b):K9 a b<=T6 n/\T8 n<=K8 a b:=by
 have bd:=rG n
 constructor
 ·unfold K9
  by_cases h:dC a b 16200000=true
  ·rw [if_pos h];omega
  ·rw [if_neg h]
   have h2:¬(16200000-a)%21600000<=b-a:=by unfold dC at h;simpa using h
   obtain ⟨c,hc⟩:∃c,c=a+(16200000-a)%21600000-21600000:=⟨_,rfl⟩
   have hc1:c%21600000=16200000:=by omega
   by_cases hn:n<=c+10800000
   ·have:=(a0D c a n hc1 (by omega) h0 hn).1
    omega
   ·have:=(YT c n b hc1 (by omega) h1 (by omega)).1
    omega
 ·unfold K8
  by_cases h:dC a b 5400000=true
  ·rw [if_pos h];omega
  ·rw [if_neg h]
   have h2:¬(5400000-a)%21600000<=b-a:=by unfold dC at h;simpa using h
   obtain ⟨c,hc⟩:∃c,c=a+(5400000-a)%21600000-21600000:=⟨_,rfl⟩
   have hc1:c%21600000=5400000:=by omega
   by_cases hn:n<=c+10800000
   ·have:=(DG c a n hc1 (by omega) h0 hn).2
    omega
   ·have:=(a0D (c+10800000) n b (by omega) (by omega) h1 (by omega)).2
    omega
end Go.Proofs.YtdhbeoahpfimbaaGreat
