/- Part of the proof of TopDistances. -/
import Derived.Test.YtdhbeoahpfimbaaGreatPi
import Derived.Test.YtdhbeoahpfimbaaGreatShelf
import Derived.Lib.ItoaNum
namespace Go.Proofs.YtdhbeoahpfimbaaGreat
namespace Knuth
structure jU (yy d1 d0 U l a b:Int):Prop where
 eq:a*d1+b=U
 b0:0<=b
 b1:b<=4294967295
 lo:(U*4294967296+l)/yy<=a
 hi:a<=4294967297
structure kU (yy d1 d0 U l:Int):Prop where
 yy_eq:yy=d1*4294967296+d0
 d1lo:2147483648<=d1
 d1hi:d1<=4294967295
 d0lo:0<=d0
 d0hi:d0<=4294967295
 Ulo:0<=U
 Uhi:U<yy
 llo:0<=l
 lhi:l<=4294967295
theorem uK {yy d1 d0 U l:Int} (h:kU yy d1 d0 U l) (a:Int):a*yy=(a*d1)*4294967296+a*d0:=by
 rw [h.yy_eq,Int.mul_add,Int.mul_assoc]
theorem CY {yy d1 d0 U l:Int} (h:kU yy d1 d0 U l):0<yy:=by
 have:=h.yy_eq;have:=h.d1lo;have:=h.d0lo;omega
theorem zF {yy d1 d0 U l:Int} (h:kU yy d1 d0 U l):(U*4294967296+l)/yy<=4294967295:=by
 have hp:=CY h
 have h1:=h.Uhi;have h2:=h.lhi
 have:(U*4294967296+l)/yy<4294967296:=Int.ediv_lt_of_lt_mul hp (by omega)
 omega
theorem R5 {yy d1 d0 U l:Int} (h:kU yy d1 d0 U l):0<=(U*4294967296+l)/yy:=by
 have h1:=h.Ulo;have h2:=h.llo
 exact Int.ediv_nonneg (by omega) (Int.le_of_lt (CY h))
theorem JM {yy d1 d0 U l:Int} (h:kU yy d1 d0 U l):jU yy d1 d0 U l (U/d1) (U-U/d1*d1):=by
 have hd:0<d1:=by have:=h.d1lo;omega
 have hp:=CY h
 have e:=Int.mul_ediv_add_emod U d1
 have m0:=Int.emod_nonneg U (Int.ne_of_gt hd)
 have m1:=Int.emod_lt_of_pos U hd
 rw [Int.mul_comm] at e
 have h3:=h.d1hi
 refine ⟨by omega,by omega,by omega,?_,?_⟩
 ·have q1:=Int.ediv_mul_le (U*4294967296+l) (Int.ne_of_gt hp)
  generalize hq:(U*4294967296+l)/yy=q at*
  have q0:0<=q:=by rw [<-hq];exact R5 h
  rw [uK h] at q1
  have:=Int.mul_nonneg q0 h.d0lo
  have:=h.lhi
  exact (Int.le_ediv_iff_mul_le hd).2 (by omega)
 ·have h5:U<4294967298*d1:=by
   have:=h.Uhi;have:=h.yy_eq;have:=h.d0hi;have:=h.d1lo;omega
  have:=Int.ediv_lt_of_lt_mul hd h5
  omega
theorem JK {yy d1 d0 U l a b:Int} (h:kU yy d1 d0 U l) (g:jU yy d1 d0 U l a b):0<=a*d0:=
 Int.mul_nonneg (Int.le_trans (R5 h) g.lo) h.d0lo
theorem JA {yy d1 d0 U l a b:Int} (h:kU yy d1 d0 U l) (g:jU yy d1 d0 U l a b):a*d0<=18446744073709551615:=by
 have a0:=Int.le_trans (R5 h) g.lo
 have:a*d0<=4294967297*4294967295:=Int.mul_le_mul g.hi h.d0hi h.d0lo (by decide)
 omega
theorem done {yy d1 d0 U l a b:Int} (h:kU yy d1 d0 U l) (g:jU yy d1 d0 U l a b) (_h1:a<4294967296) (h2:a*d0<=4294967296*b+l):a=(U*4294967296+l)/yy:=by
 have hp:=CY h
 have e:=uK h a
 have g1:=g.eq
 have:a<=(U*4294967296+l)/yy:=(Int.le_ediv_iff_mul_le hp).2 (by omega)
 have:=g.lo
 omega
theorem a2U {yy d1 d0 U l a b:Int} (h:kU yy d1 d0 U l) (g:jU yy d1 d0 U l a b) (h2:4294967296<=a\/4294967296*b+l<a*d0):(U*4294967296+l)/yy<=a-1:=by
 have hp:=CY h
 rcases h2 with h2|h2
 ·have:=zF h;omega
 ·have e:=uK h a
  have g1:=g.eq
  have:(U*4294967296+l)/yy<a:=Int.ediv_lt_of_lt_mul hp (by omega)
  omega
theorem xK {yy d1 d0 U l a b:Int} (h:kU yy d1 d0 U l) (g:jU yy d1 d0 U l a b) (h2:4294967296<=a\/4294967296*b+l<a*d0) (h3:b+d1<=4294967295):jU yy d1 d0 U l (a-1) (b+d1):=by
 have l1:=a2U h g h2
 have g1:=g.eq;have g2:=g.b0;have g3:=g.hi;have:=h.d1lo
 refine ⟨?_,by omega,h3,l1,by omega⟩
 rw [Int.sub_mul];omega
theorem out {yy d1 d0 U l a b:Int} (h:kU yy d1 d0 U l) (g:jU yy d1 d0 U l a b) (h2:4294967296<=a\/4294967296*b+l<a*d0) (h3:4294967296<=b+d1):a-1=(U*4294967296+l)/yy:=by
 have hp:=CY h
 have l1:=a2U h g h2
 have e:=uK h (a-1)
 have g1:=g.eq
 have g3:=g.hi
 have e2:(a-1)*d1=a*d1-d1:=by rw [Int.sub_mul];omega
 have p0:0<=a-1:=Int.le_trans (R5 h) l1
 have p1:(a-1)*d0<=4294967296*4294967295:=Int.mul_le_mul (by omega) h.d0hi h.d0lo (by decide)
 have:=h.llo
 have:a-1<=(U*4294967296+l)/yy:=(Int.le_ediv_iff_mul_le hp).2 (by omega)
 omega
end Knuth
open Go.RowKit
namespace Div
theorem tG (x:Int) (h0:0<=x) (h1:x<=18446744073709551615):bits BinOp.and IntKind.u64 x 4294967295=x%4294967296:=by
 obtain ⟨n,rfl⟩:∃n:Nat,x=n:=⟨x.toNat,by omega⟩
 have:=u64_and_nat n 4294967295 (by omega) (by omega)
 rw [show ((4294967295:Nat):Int)=4294967295 from rfl] at this
 rw [this,show (4294967295:Nat)=2^32-1 from rfl,Nat.and_two_pow_sub_one_eq_mod]
 omega
theorem oY (p:Nat) (a b:Nat) (s:Nat) (hp:p=2^s) (hb:b<p) (ha:a*p+b<18446744073709551616):
  bits BinOp.or IntKind.u64 ((a*p:Nat):Int) (b:Int)=((a*p+b:Nat):Int):=by
 rw [u64_or_nat _ _ (by omega) (by omega)]
 subst hp
 rw [<-Nat.shiftLeft_eq,<-Nat.shiftLeft_add_eq_or_of_lt hb]
theorem a2M (hi lo y:Int) (s:Nat) (h0:0<=hi) (h1:hi<y) (_h2:y<=18446744073709551615) (h3:0<=lo) (h4:lo<=18446744073709551615) (hs1:s<=63) (hy1:y*2^s<=18446744073709551615):
  ∃U L l1 l0:Int,bits BinOp.or IntKind.u64 (IntKind.u64.wrap (hi*2^s)) (lo/2^((64:Int)-(s:Int)).toNat)=U/\IntKind.u64.wrap (lo*2^s)=L/\L/4294967296=l1/\
   bits BinOp.and IntKind.u64 L 4294967295=l0/\0<=U/\U<y*2^s/\0<=l1/\l1<=4294967295/\0<=l0/\l0<=4294967295/\0<=L/\L<=18446744073709551615/\
   (U*4294967296+l1)*4294967296+l0=(hi*18446744073709551616+lo)*2^s:=by
 obtain ⟨H,rfl⟩:∃n:Nat,hi=n:=⟨hi.toNat,by omega⟩
 obtain ⟨K,rfl⟩:∃n:Nat,lo=n:=⟨lo.toNat,by omega⟩
 obtain ⟨Y,rfl⟩:∃n:Nat,y=n:=⟨y.toNat,by omega⟩
 have e64:((64:Int)-(s:Int)).toNat=64-s:=by omega
 rw [e64]
 have hpp:(2:Nat)^s*2^(64-s)=18446744073709551616:=by
  rw [<-Nat.pow_add,show s+(64-s)=64 by omega]
 have c1:((2:Int)^s)=((2^s:Nat):Int):=(Int.natCast_pow 2 s).symm
 have c2:((2:Int)^(64-s))=((2^(64-s):Nat):Int):=(Int.natCast_pow 2 (64-s)).symm
 rw [c1] at hy1 ⊢
 rw [c2]
 have hp0:0<(2:Nat)^s:=Nat.two_pow_pos s
 have hr0:0<(2:Nat)^(64-s):=Nat.two_pow_pos _
 generalize hP:(2:Nat)^s=p at*
 generalize hR:(2:Nat)^(64-s)=r at*
 have hHY:H*p+p<=Y*p:=by
  have:(H+1)*p<=Y*p:=Nat.mul_le_mul_right p (by omega)
  rwa [Nat.add_mul,Nat.one_mul] at this
 have hy1':Y*p<=18446744073709551615:=by rw [<-Int.natCast_mul] at hy1;omega
 have hKr:K/r<p:=by
  apply Nat.div_lt_of_lt_mul
  rw [Nat.mul_comm,hpp];omega
 have hK:K*p=(K/r)*18446744073709551616+(K*p)%18446744073709551616:=by
  have e1:K*p/18446744073709551616=K/r:=by
   rw [<-hpp,Nat.mul_comm K p,Nat.mul_div_mul_left _ _ hp0]
  have:=Nat.div_add_mod (K*p) 18446744073709551616
  rw [e1] at this;omega
 have w1:IntKind.u64.wrap ((H:Int)*(p:Int))=((H*p:Nat):Int):=by
  rw [IntKind.wrap_u64,<-Int.natCast_mul];omega
 have w2:IntKind.u64.wrap ((K:Int)*(p:Int))=((K*p%18446744073709551616:Nat):Int):=by
  rw [IntKind.wrap_u64,<-Int.natCast_mul];omega
 have w3:((K:Int)/(r:Int))=((K/r:Nat):Int):=(Int.natCast_ediv K r).symm
 rw [w1,w2,w3,oY p H (K/r) s hP.symm hKr (by omega)]
 have hl:=tG ((K*p%18446744073709551616:Nat):Int) (by omega) (by omega)
 refine ⟨_,_,_,_,rfl,rfl,rfl,hl,by omega,?_,by omega,by omega,by omega,by omega,by omega,by omega,?_⟩
 ·rw [<-Int.natCast_mul];omega
 ·have e5:((H:Int)*18446744073709551616+(K:Int))*(p:Int)=((H*p:Nat):Int)*18446744073709551616+((K*p:Nat):Int):=by
   rw [Int.add_mul,Int.mul_right_comm,Int.natCast_mul,Int.natCast_mul]
  rw [e5]
  generalize H*p=HP at*
  generalize K*p=KP at*
  omega
theorem a2j (V y p U l1 l0 yy Q1 R1 Q0 R0:Int) (hp:0<p) (hyp:0<y) (hyy:y*p=yy) (hV:(U*4294967296+l1)*4294967296+l0=V*p)
  (_h1:Q1=(U*4294967296+l1)/yy) (h2:R1=U*4294967296+l1-Q1*yy) (h3:Q0=(R1*4294967296+l0)/yy) (h4:R0=R1*4294967296+l0-Q0*yy):
  Q1*4294967296+Q0=V/y/\R0/p=V%y:=by
 have hyy0:0<yy:=by rw [<-hyy];exact Int.mul_pos hyp hp
 have m4:R0=(R1*4294967296+l0)%yy:=by
  rw [h4,h3,Int.emod_def,Int.mul_comm yy]
 have b0:0<=R0:=by rw [m4];exact Int.emod_nonneg _ (Int.ne_of_gt hyy0)
 have b1:R0<yy:=by rw [m4];exact Int.emod_lt_of_pos _ hyy0
 have e:V*p=(Q1*4294967296+Q0)*yy+R0:=by
  have:(Q1*4294967296+Q0)*yy=(Q1*yy)*4294967296+Q0*yy:=by rw [Int.add_mul,Int.mul_assoc,Int.mul_comm 4294967296 yy,<-Int.mul_assoc]
  rw [this];omega
 generalize Q1*4294967296+Q0=Q at*
 have e2:R0=(V-Q*y)*p:=by
  rw [Int.sub_mul,Int.mul_assoc,hyy];omega
 have e3:R0/p=V-Q*y:=by rw [e2,Int.mul_ediv_cancel _ (Int.ne_of_gt hp)]
 have r0:0<=V-Q*y:=by rw [<-e3];exact Int.ediv_nonneg b0 (Int.le_of_lt hp)
 have r1:V-Q*y<y:=by
  rw [<-e3];exact Int.ediv_lt_of_lt_mul hp (by omega)
 have q:V/y=Q:=by
  apply Int.le_antisymm
  ·have:V/y<Q+1:=Int.ediv_lt_of_lt_mul hyp (by rw [Int.add_mul,Int.one_mul];omega)
   omega
  ·exact (Int.le_ediv_iff_mul_le hyp).2 (by omega)
 refine ⟨q.symm,?_⟩
 rw [e3,Int.emod_def,q,Int.mul_comm]
theorem KI {yy d1 d0 U l X:Int} (h:Knuth.kU yy d1 d0 U l) (hyy:yy<=18446744073709551615) (hX:X=(U*4294967296+l)/yy):
  ∃R:Int,IntKind.u64.wrap (IntKind.u64.wrap (IntKind.u64.wrap (U*4294967296)+l)-IntKind.u64.wrap (X*yy))=R/\R=U*4294967296+l-X*yy/\0<=R/\R<yy/\0<=X/\X<=4294967295:=by
 have hp:=Knuth.CY h
 have e:U*4294967296+l-X*yy=(U*4294967296+l)%yy:=by rw [hX,Int.emod_def,Int.mul_comm yy]
 have b0:=Int.emod_nonneg (U*4294967296+l) (Int.ne_of_gt hp)
 have b1:=Int.emod_lt_of_pos (U*4294967296+l) hp
 rw [<-e] at b0 b1
 have c0:=Knuth.R5 h
 have c1:=Knuth.zF h
 rw [<-hX] at c0 c1
 refine ⟨_,rfl,?_,?_⟩
 ·simp only [IntKind.wrap_u64]
  omega
 ·simp only [IntKind.wrap_u64]
  omega
theorem a2H (a b d0 d1 l:Int):(4294967296<=a/\b+d1<=4294967295)\/(a<4294967296/\4294967296*b+l<a*d0/\b+d1<=4294967295)\/
  (4294967296<=a/\4294967296<=b+d1)\/(a<4294967296/\4294967296*b+l<a*d0/\4294967296<=b+d1)\/(a<4294967296/\a*d0<=4294967296*b+l):=by omega
theorem a3s {a b c d:Int} (h:a=c/\b=d):Ending.returned (.tuple #[.int .u64 a,.int .u64 b])=Ending.returned (.tuple #[.int .u64 c,.int .u64 d]):=by
 rw [h.1,h.2]
end Div
set_option maxHeartbeats 1000000 in
theorem EJ (hi lo y yy U L l1 l0 d1 d0:Int) (w:World) (h0:0<hi) (h1:hi<y) (s:Int) (hs0:0<=s) (hs1:s<=63)
 (hy:y*2^s.toNat=yy) (hy0:9223372036854775808<=yy) (hy1:yy<=18446744073709551615)
 (hU:bits BinOp.or IntKind.u64 (IntKind.u64.wrap (hi*2^s.toNat)) (lo/2^(64-s).toNat)=U)
 (hL:IntKind.u64.wrap (lo*2^s.toNat)=L) (hl1:L/4294967296=l1) (hl0:bits BinOp.and IntKind.u64 L 4294967295=l0)
 (hd1:yy/4294967296=d1) (hd0:bits BinOp.and IntKind.u64 yy 4294967295=d0)
 (bU:0<=U) (bU1:U<yy) (bl1:0<=l1) (bl1':l1<=4294967295) (bl0:0<=l0) (bl0':l0<=4294967295) (bd1:2147483648<=d1) (bd1':d1<=4294967295) (bd0:0<=d0) (bd0':d0<=4294967295)
 (B1:Hid (Knuth.kU yy d1 d0 U l1))
 (HV:Hid ((U*4294967296+l1)*4294967296+l0=(hi*18446744073709551616+lo)*2^s.toNat))
 (hl:Calls Tryz.prog 190 #[.int .u64 y] w fun e w'=>e= .returned (.int .i64 s)/\w=w'):
  Calls Tryz.prog 110 #[.int .u64 hi,.int .u64 lo,.int .u64 y] w fun e w'=>e= .returned (.tuple #[.int .u64 ((hi*18446744073709551616+lo)/y),.int .u64 ((hi*18446744073709551616+lo)%y)])/\∃n,w.drewN n=w':=by
 have HY:Hid (y*2^s.toNat=yy):=hy
 have q0:0<=U/d1:=Int.ediv_nonneg bU (by omega)
 have g0:=Knuth.JM B1.out
 have q1:=g0.hi
 have q2:=g0.b0
 have q3:=g0.b1
 have q4:0<=U/d1*d1:=Int.mul_nonneg q0 (by omega)
 have G0:Hid (Knuth.jU yy d1 d0 U l1 (U/d1) (U-U/d1*d1)):=g0
 clear g0
 go_enter Tryz.func110,Tryz.ntmps110
 go_wp2_with (go_at_call 190;refine am hl ?_;rintro w' rfl)
 clear hl1 hl0 hL hd1 hd0 hU hy G0
 go_loop [15,16] (fun q r=>∃a b:Int,q= .int .u64 a/\r= .int .u64 b/\Hid (Knuth.jU yy d1 d0 U l1 a b)) (fun q _=>(intOf q).toNat)
 case atStart=>exact ⟨_,_,rfl,rfl,Knuth.JM B1.out⟩
 case round=>
  obtain ⟨a,b,rfl,rfl,G⟩:=hrel
  have a0:=Int.le_trans (Knuth.R5 B1.out) G.out.lo
  have a1:=G.out.hi
  have b0:=G.out.b0
  have b1:=G.out.b1
  have p0:=Knuth.JK B1.out G.out
  have p1:=Knuth.JA B1.out G.out
  rcases Div.a2H a b d0 d1 l1 with ⟨c1,c3⟩|⟨c1,c2,c3⟩|⟨c1,c3⟩|⟨c1,c2,c3⟩|⟨c1,c2⟩
  case' inr.inr.inr.inr=>
   obtain ⟨X,rfl⟩:∃X,X=a:=⟨a,rfl⟩
   have HX:Hid (X=(U*4294967296+l1)/yy):=Knuth.done B1.out G.out c1 c2
  case' inr.inr.inr.inl=>
   have o:=Knuth.out B1.out G.out (Or.inr c2) c3
   obtain ⟨X,rfl⟩:∃X,a=X+1:=⟨a-1,by omega⟩
   have HX:Hid (X=(U*4294967296+l1)/yy):=by (rw [Int.add_sub_cancel] at o;exact o)
   clear o
  case' inr.inr.inl=>
   have o:=Knuth.out B1.out G.out (Or.inl c1) c3
   obtain ⟨X,rfl⟩:∃X,a=X+1:=⟨a-1,by omega⟩
   have HX:Hid (X=(U*4294967296+l1)/yy):=by (rw [Int.add_sub_cancel] at o;exact o)
   clear o
  case inr.inl=>
   have G2:Hid (Knuth.jU yy d1 d0 U l1 (a-1) (b+d1)):=Knuth.xK B1.out G.out (Or.inr c2) c3
   have k0:=(Knuth.xK B1.out G.out (Or.inr c2) c3).lo
   have k1:=Knuth.R5 B1.out
   go_wp2
   go_round
   case rel=>exact ⟨_,_,rfl,rfl,G2⟩
   case measure=>simp [intOf];omega
  case inl=>
   have G2:Hid (Knuth.jU yy d1 d0 U l1 (a-1) (b+d1)):=Knuth.xK B1.out G.out (Or.inl c1) c3
   have k0:=(Knuth.xK B1.out G.out (Or.inl c1) c3).lo
   have k1:=Knuth.R5 B1.out
   go_wp2
   go_round
   case rel=>exact ⟨_,_,rfl,rfl,G2⟩
   case measure=>simp [intOf];omega
  all_goals
   obtain ⟨R,hR,er,r0,r1,x0,x1⟩:=Div.KI B1.out hy1 HX.out
   have ER:Hid (R=U*4294967296+l1-X*yy):=er
   clear er
   have B2:Hid (Knuth.kU yy d1 d0 R l0):=⟨B1.out.yy_eq,bd1,bd1',bd0,bd0',r0,r1,bl0,bl0'⟩
   have g0:=Knuth.JM B2.out
   have e0:0<=R/d1:=Int.ediv_nonneg r0 (by omega)
   have e1:=g0.hi
   have e2:=g0.b0
   have e3:=g0.b1
   have e4:0<=R/d1*d1:=Int.mul_nonneg e0 (by omega)
   clear g0
   go_wp2
   clear hR
   go_loop [18,16] (fun q r=>∃a b:Int,q= .int .u64 a/\r= .int .u64 b/\Hid (Knuth.jU yy d1 d0 R l0 a b)) (fun q _=>(intOf q).toNat)
   case atStart=>exact ⟨_,_,rfl,rfl,Knuth.JM B2.out⟩
   case round=>
    clear c1 a0 a1 b0 b1 p0 p1 q0 q1 q2 q3 q4 e0 e1 e2 e3 e4
    try clear c2
    try clear c3
    obtain ⟨a,b,rfl,rfl,G⟩:=hrel
    have a0:=Int.le_trans (Knuth.R5 B2.out) G.out.lo
    have a1:=G.out.hi
    have b0:=G.out.b0
    have b1:=G.out.b1
    have p0:=Knuth.JK B2.out G.out
    have p1:=Knuth.JA B2.out G.out
    rcases Div.a2H a b d0 d1 l0 with ⟨c1,c3⟩|⟨c1,c2,c3⟩|⟨c1,c3⟩|⟨c1,c2,c3⟩|⟨c1,c2⟩
    case' inr.inr.inr.inr=>
     obtain ⟨Y,rfl⟩:∃Y,Y=a:=⟨a,rfl⟩
     have HY2:Hid (Y=(R*4294967296+l0)/yy):=Knuth.done B2.out G.out c1 c2
    case' inr.inr.inr.inl=>
     have o:=Knuth.out B2.out G.out (Or.inr c2) c3
     obtain ⟨Y,rfl⟩:∃Y,a=Y+1:=⟨a-1,by omega⟩
     have HY2:Hid (Y=(R*4294967296+l0)/yy):=by (rw [Int.add_sub_cancel] at o;exact o)
     clear o
    case' inr.inr.inl=>
     have o:=Knuth.out B2.out G.out (Or.inl c1) c3
     obtain ⟨Y,rfl⟩:∃Y,a=Y+1:=⟨a-1,by omega⟩
     have HY2:Hid (Y=(R*4294967296+l0)/yy):=by (rw [Int.add_sub_cancel] at o;exact o)
     clear o
    case inr.inl=>
     have G2:Hid (Knuth.jU yy d1 d0 R l0 (a-1) (b+d1)):=Knuth.xK B2.out G.out (Or.inr c2) c3
     have k0:=(Knuth.xK B2.out G.out (Or.inr c2) c3).lo
     have k1:=Knuth.R5 B2.out
     go_wp2
     go_round
     case rel=>exact ⟨_,_,rfl,rfl,G2⟩
     case measure=>simp [intOf];omega
    case inl=>
     have G2:Hid (Knuth.jU yy d1 d0 R l0 (a-1) (b+d1)):=Knuth.xK B2.out G.out (Or.inl c1) c3
     have k0:=(Knuth.xK B2.out G.out (Or.inl c1) c3).lo
     have k1:=Knuth.R5 B2.out
     go_wp2
     go_round
     case rel=>exact ⟨_,_,rfl,rfl,G2⟩
     case measure=>simp [intOf];omega
    all_goals
     obtain ⟨R0,hR0,er0,s0,s1,y0,y1⟩:=Div.KI B2.out hy1 HY2.out
     have ER0:Hid (R0=R*4294967296+l0-Y*yy):=er0
     clear er0
     go_wp2
     clear hR0
     go_ret2
     exact ⟨Div.a3s (Div.a2j _ y _ U l1 l0 yy X R Y R0 (Int.pow_pos (by decide)) (by omega) HY.out HV.out HX.out ER.out HY2.out ER0.out),0,rfl⟩
set_option maxHeartbeats 400000 in
theorem BI (lo y:Int) (w:World) (h1:0<y) (h2:y<=18446744073709551615) (h3:0<=lo) (h4:lo<=18446744073709551615):
  Calls Tryz.prog 110 #[.int .u64 0,.int .u64 lo,.int .u64 y] w fun e w'=>e= .returned (.tuple #[.int .u64 (lo/y),.int .u64 (lo%y)])/\∃n,w.drewN n=w':=by
 have b0:0<=lo/y:=Int.ediv_nonneg h3 (by omega)
 have b1:lo/y<=lo:=Int.ediv_le_self y h3
 have m0:=Int.emod_nonneg lo (Int.ne_of_gt h1)
 have m1:=Int.emod_lt_of_pos lo h1
 go_enter Tryz.func110,Tryz.ntmps110
 go_wp2
 go_quiet (fail)
 go_wp2
 go_ret2
 exact ⟨rfl,_,rfl⟩
theorem a3F (y:Int) (h1:0<y) (h2:y<=18446744073709551615):∃k:Nat,k<=63/\(64-(Lib.bitLen y.toNat:Int))=(k:Int)/\9223372036854775808<=y*2^k/\y*2^k<=18446744073709551615:=by
 obtain ⟨Y,rfl⟩:∃n:Nat,y=n:=⟨y.toNat,by omega⟩
 obtain ⟨b1,b2,b3⟩:=Lib.bitLenAux_bounds 64 Y (by omega) (by omega)
 have b4:=Lib.bitLen_le Y 64 (Nat.le_refl _) (by omega)
 rw [Int.toNat_natCast]
 change 1<=Lib.bitLen Y at b1
 change 2^(Lib.bitLen Y-1)<=Y at b2
 change Y<2^Lib.bitLen Y at b3
 generalize Lib.bitLen Y=L at*
 refine ⟨64-L,by omega,by omega,?_⟩
 have c1:((2:Int)^(64-L))=((2^(64-L):Nat):Int):=(Int.natCast_pow 2 (64-L)).symm
 rw [c1,<-Int.natCast_mul]
 have e1:2^(L-1)*2^(64-L)=9223372036854775808:=by
  rw [<-Nat.pow_add,show L-1+(64-L)=63 by omega]
 have e2:2^L*2^(64-L)=18446744073709551616:=by
  rw [<-Nat.pow_add,show L+(64-L)=64 by omega]
 have m1:=Nat.mul_le_mul_right (2^(64-L)) b2
 have m2:=Nat.mul_lt_mul_of_pos_right b3 (Nat.two_pow_pos (64-L))
 rw [e1] at m1
 rw [e2] at m2
 omega
theorem F3 (hi lo y:Int) (w:World) (h0:0<=hi) (h1:hi<y) (h2:y<=18446744073709551615) (h3:0<=lo) (h4:lo<=18446744073709551615):
  Calls Tryz.prog 110 #[.int .u64 hi,.int .u64 lo,.int .u64 y] w fun e w'=>e= .returned (.tuple #[.int .u64 ((hi*18446744073709551616+lo)/y),.int .u64 ((hi*18446744073709551616+lo)%y)])/\∃n,w.drewN n=w':=by
 by_cases hz:hi=0
 ·subst hz
  have:=BI lo y w h1 h2 h3 h4
  simpa using this
 ·obtain ⟨k,hk,ek,hy0,hy1⟩:=a3F y (by omega) h2
  obtain ⟨U,L,l1,l0,hU,hL,hl1,hl0,bU,bU1,bl1,bl1',bl0,bl0',bL,bL1,HV⟩:=Div.a2M hi lo y k h0 h1 h2 h3 h4 hk hy1
  have hlz:=Tryz.bits_LeadingZeros64 y w (by omega) h2
  rw [ek] at hlz
  have hl:Calls Tryz.prog 190 #[.int .u64 y] w fun e w'=>e= .returned (.int .i64 (k:Int))/\w=w':=hlz.mono fun e w' ⟨a,b⟩=>⟨a,b.symm⟩
  have tk:((k:Int)).toNat=k:=Int.toNat_natCast k
  have d0:=Div.tG (y*2^k) (by omega) hy1
  exact EJ hi lo y (y*2^k) U L l1 l0 (y*2^k/4294967296) (y*2^k%4294967296) w (by omega) h1 k (by omega) (by omega) (by rw [tk]) hy0 hy1
   (by rw [tk];exact hU) (by rw [tk];exact hL) hl1 hl0 rfl d0 bU bU1 bl1 bl1' bl0 bl0' (by omega) (by omega) (by omega) (by omega)
   ⟨by omega,by omega,by omega,by omega,by omega,bU,bU1,bl1,bl1'⟩ (by rw [tk];exact HV) hl
theorem eL (x y:Int) (w:World) (hx0:0<=x) (hx:x<=18446744073709551615) (hy0:0<=y) (hy:y<=18446744073709551615):
  Calls Tryz.prog 109 #[.int .u64 x,.int .u64 y] w fun e w'=>e= .returned (.tuple #[.int .u64 (x*y/18446744073709551616),.int .u64 (x*y%18446744073709551616)])/\w=w':=by
 obtain ⟨a,rfl⟩:∃n:Nat,x=n:=⟨x.toNat,by omega⟩
 obtain ⟨b,rfl⟩:∃n:Nat,y=n:=⟨y.toNat,by omega⟩
 refine (Tryz.bits_Mul64 a b (by omega) (by omega) w).mono fun e w' ⟨h1,h2⟩=>⟨?_,h2.symm⟩
 rw [h1,Int.natCast_ediv,Int.natCast_emod,Int.natCast_mul]
 rfl
end Go.Proofs.YtdhbeoahpfimbaaGreat
