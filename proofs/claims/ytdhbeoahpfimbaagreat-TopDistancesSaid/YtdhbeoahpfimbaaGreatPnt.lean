/- Part of the proof of TopDistances. -/
import Derived.Test.YtdhbeoahpfimbaaGreatPe
import Derived.Test.YtdhbeoahpfimbaaGreatPi
import Derived.Deep.Cut
import Derived.Deep.DeepCutAuto
namespace Go.Proofs.YtdhbeoahpfimbaaGreat
open Go.RowKit Brg
theorem a1b {a b:Int} (a0: -2147483648<=a) (a1:a<=2147483648) (b0: -2147483648<=b) (b1:b<=2147483648): -4611686018427387904<=a*b/\a*b<=4611686018427387904:=by
 have e:=Int.natAbs_mul a b
 have h:a.natAbs*b.natAbs<=2147483648*2147483648:=Nat.mul_le_mul (by omega) (by omega)
 omega
set_option maxHeartbeats 1000000 in
theorem F9 (px py qx qy:Int) (w:World) (a0: -2147483648<=px) (a1:px<=2147483648) (b0: -2147483648<=py) (b1:py<=2147483648) (c0: -2147483648<=qx) (c1:qx<=2147483648) (d0: -2147483648<=qy) (d1:qy<=2147483648):
  Calls Tryz.prog 130 #[.agg #[.int .i64 px,.int .i64 py],.agg #[.int .i64 qx,.int .i64 qy]] w fun e w'=>e= .returned (.bool (iF (px,py) (qx,qy)))/\Below w.heap.size w w':=by
 have m1:=a1b a0 a1 d0 d1
 have m2:=a1b b0 b1 c0 c1
 have E:Hid (iF (px,py) (qx,qy)=decide (py*qx<=px*qy)):=rfl
 obtain ⟨B,hB⟩:∃B,iF (px,py) (qx,qy)=B:=⟨_,rfl⟩
 rw [hB] at E ⊢
 clear hB
 obtain ⟨s,hs⟩:∃s,px*qy=s:=⟨_,rfl⟩
 obtain ⟨t,ht⟩:∃t,py*qx=t:=⟨_,rfl⟩
 rw [hs] at m1
 rw [ht] at m2
 have W1:IntKind.i64.wrap (px*qy)=s:=by rw [IntKind.wrap_i64,hs];omega
 have W2:IntKind.i64.wrap (py*qx)=t:=by rw [IntKind.wrap_i64,ht];omega
 have E2:Hid (B=decide (t<=s)):=by rw [<-hs,<-ht];exact E.out
 clear hs ht E
 go_enter Tryz.func130,Tryz.ntmps130
 go_wp2
 go_ret
 exact ⟨by rw [E2.out];rfl,bv⟩
theorem OI {x y:Int} (h:¬(0<x/\0<=y)) (hz:¬(x=0/\y=0)):bK y (-x)+1=bK x y/\J6 y (-x)=J6 x y/\J8 y (-x)=J8 x y:=by
 unfold bK J6 J8
 repeat' split
 all_goals first|omega|(refine ⟨?_,?_,?_⟩<;>omega)
theorem OG {x y:Int} (h:0<x/\0<=y):bK x y=0/\J6 x y=x/\J8 x y=y:=by
 unfold bK J6 J8
 simp only [if_pos h]
 exact ⟨trivial,trivial,trivial⟩
theorem a0a {f:Nat->Bool} {k lo hi:Nat} (h:hi-lo<=1):rR f k lo hi=lo:=by
 cases k with
 |zero=>rfl
 |succ k=>unfold rR;rw [if_neg (by omega)]
set_option maxRecDepth 100000 in
set_option maxHeartbeats 8000000 in
theorem MQ (C S:Nat->Nat) (x y:Int) (w:World) (a0: -2147483648<=x) (a1:x<=2147483648) (b0: -2147483648<=y) (b1:y<=2147483648) (hz:¬(x=0/\y=0))
  (RE:Hid (∀(u v:Int) (k:Nat) (w:World),0<u->u<=2147483648->0<=v->v<=2147483648->0<k->k<5400000->Calls Tryz.prog 220 #[.agg #[.int .i64 u,.int .i64 v],.int .i64 k] w fun e w'=>e= .returned (.bool (cE C S u v k))/\Below w.heap.size w w')):
  Calls Tryz.prog 131 #[.agg #[.int .i64 x,.int .i64 y]] w fun e w'=>e= .returned (.tuple #[.int .i64 (M7 C S x y),.bool (N5 C S x y)])/\Below w.heap.size w w':=by
 obtain ⟨AA,hAA⟩:∃A,M7 C S x y=A:=⟨_,rfl⟩
 obtain ⟨EE,hEE⟩:∃A,N5 C S x y=A:=⟨_,rfl⟩
 rw [hAA,hEE]
 have HA:=b6 hAA
 have HE:=b6 hEE
 have HZ:=b6 hz
 clear hAA hEE hz
 go_enter Tryz.func131,Tryz.ntmps131
 go_wp2
 refine m9 ?_
 intro w' hb
 replace hb:=mU;obtain ⟨hcell,hfroz,hz,_⟩:=mB
 have hw0:Below w.heap.size w w':=bw
 have cr0:=cq w' w.heap.size 0 x
 have cr1:=cq w' w.heap.size 1 y
 have cg:∀o,w'.frozen? ⟨w.heap.size,o,none⟩=false:=by intro o;simp [go_sem, *]
 clear hcell hfroz hz hb
 obtain ⟨V0,rfl⟩:=nm w'
 have gV:w.heap.size<V0.heap.size:=World.block_lt_of_cell? _ _ cr0
 go_loopw [4] (fun tv wr=>∃(j:Nat) (u v:Int),tv= .int .i64 (j*5400000)/\wr.cell? ⟨w.heap.size,0,none⟩=some (.int .i64 u)/\wr.cell? ⟨w.heap.size,1,none⟩=some (.int .i64 v)/\Hid (∀o,wr.frozen? ⟨w.heap.size,o,none⟩=false)/\Hid (j+bK u v=bK x y/\J6 u v=J6 x y/\J8 u v=J8 x y/\¬(u=0/\v=0))/\ -2147483648<=u/\u<=2147483648/\ -2147483648<=v/\v<=2147483648/\Below w.heap.size w wr) (fun tv _=>((40000000:Int)-intOf tv).toNat)
 case atStart=>exact ⟨0,x,y,by simp,cr0,cr1,cg,⟨by simp,rfl,rfl,HZ.out⟩,a0,a1,b0,b1,hw0⟩
 case round=>
  obtain ⟨j,u,v,rfl,c0,c1,hf,hq,u0,u1,v0,v1,hV⟩:=hrel
  have gr:w.heap.size<wr.heap.size:=World.block_lt_of_cell? _ _ c0
  by_cases hin:0<u/\0<=v
  ·obtain ⟨h1,h2⟩:=hin
   have hq1:=hq.out
   obtain ⟨q0,qx,qy⟩:=OG ⟨h1,h2⟩
   rw [q0,qx,qy] at hq1
   have HQ:=b6 (show j=bK x y/\u=J6 x y/\v=J8 x y from ⟨by omega,hq1.2.1,hq1.2.2.1⟩)
   clear hq q0 qx qy hq1
   have fz:=hf.out
   go_wp2
   go_loopw [5,6] (fun lv hv wx=>∃(k lo hi:Nat),lv= .int .i64 lo/\hv= .int .i64 hi/\lo<hi/\hi<=5400000/\Hid (hi-lo<=2^k)/\Hid (rR (cE C S u v) k lo hi=kS C S u v)/\Below wr.heap.size wr wx) (fun lv hv _=>(intOf hv-intOf lv).toNat)
   case atStart=>exact ⟨23,0,5400000,rfl,rfl,by decide,by decide,by unfold Hid;decide,rfl,Below.refl _ _⟩
   case round=>
    obtain ⟨k,lo,hi,rfl,rfl,lh,h5,hk,hs,hX⟩:=hrel
    have d0:=cell_later hX c0
    have d1:=cell_later hX c1
    have gx:w.heap.size<wr.heap.size:=World.block_lt_of_cell? _ _ d0
    by_cases hc:1<hi-lo
    ·have k1:∃k2,k=k2+1:=by
      cases k with
      |zero=>have:=hk.out;simp at this;omega
      |succ k=>exact ⟨k,rfl⟩
     obtain ⟨k2,rfl⟩:=k1
     have hk2:=hk.out
     rw [Nat.pow_succ] at hk2
     have hs2:=hs.out
     unfold rR at hs2
     rw [if_pos hc] at hs2
     have HS:=b6 hs2
     have RK:CB 220 #[.agg #[.int .i64 u,.int .i64 v],.int .i64 (((lo:Int)+(hi:Int))/2)] (.bool (cE C S u v ((lo+hi)/2))):=b6 fun w=>by
      have:=RE.out u v ((lo+hi)/2) w h1 u1 h2 v1 (by omega) (by omega)
      simpa using this
     have q1:decide ((1:Int)<(hi:Int)-(lo:Int))=true:=by simp;omega
     have HK:=b6 hk2
     clear hk hs hs2 hk2
     cases hr:cE C S u v ((lo+hi)/2) with
     |true=>
      rw [hr] at RK
      go_wp2_with (go_at_call 220;((with_reducible refine am (RK.out _) ?_);intro w' hb);replace hb:=mU;obtain ⟨hcell,hfroz,hz,_⟩:=mB)
      have hs3:=HS.out
      rw [hr] at hs3
      exact ⟨⟨k2,(lo+hi)/2,hi,by simp,rfl,by omega,h5,by have:=HK.out;unfold Hid;omega,by simpa [Hid] using hs3,bw⟩,by simp [intOf];omega⟩
     |false=>
      rw [hr] at RK
      go_wp2_with (go_at_call 220;((with_reducible refine am (RK.out _) ?_);intro w' hb);replace hb:=mU;obtain ⟨hcell,hfroz,hz,_⟩:=mB)
      have hs3:=HS.out
      rw [hr] at hs3
      exact ⟨⟨k2,lo,(lo+hi)/2,rfl,by simp,by omega,by omega,by have:=HK.out;unfold Hid;omega,by simpa [Hid] using hs3,bw⟩,by simp [intOf];omega⟩
    ·have q1:decide ((1:Int)<(hi:Int)-(lo:Int))=false:=by simp;omega
     have e:=hs.out
     rw [a0a (by omega)] at e
     have HL:=b6 e
     clear hs hk e
     have j3:j<=3:=by
      rw [HQ.out.1]
      unfold bK
      repeat' split
      all_goals omega
     have lo5:lo<5400000:=by omega
     obtain ⟨L,hL⟩:∃L:Int,(lo:Int)=L:=⟨_,rfl⟩
     obtain ⟨J,hJ⟩:∃J:Int,(j:Int)*5400000=J:=⟨_,rfl⟩
     have J0:0<=J:=by omega
     have J1:J<=16200000:=by omega
     have L0:0<=L:=by omega
     have L1:L<=5400000:=by omega
     have HV:Hid (AA=J+L):=by
      have:=HA.out
      have q:=HQ.out
      have l:=HL.out
      unfold M7 at this
      rw [<-q.1,<-q.2.1,<-q.2.2,<-l] at this
      unfold Hid
      omega
     have HX:Hid (EE=((decide (L=0)&&decide (v=0))||(decide (L=2700000)&&decide (u=v)))):=by
      have:=HE.out
      have q:=HQ.out
      have l:=HL.out
      unfold N5 at this
      rw [<-q.2.1,<-q.2.2,<-l] at this
      rw [<-this,<-hL]
      have a1:decide (lo=0)=decide ((lo:Int)=0):=by simp
      have a2:decide (lo=2700000)=decide ((lo:Int)=2700000):=by
       rw [decide_eq_decide];omega
      unfold Hid
      rw [a1,a2]
     have HJ:=b6 hJ
     have HLL:=b6 hL
     have HR:Hid (∀A' E',A'=J+L->E'=((decide (L=0)&&decide (v=0))||(decide (L=2700000)&&decide (u=v)))->AA=A'/\EE=E'):=b6 fun A' E' h1 h2=>⟨by rw [h1];exact HV.out,by rw [h2];exact HX.out⟩
     clear HV HX
     go_wp2
     rw [hL,hJ]
     clear hL hJ
     by_cases l0:L=0
     ·subst l0
      by_cases hv:v=0
      ·subst hv
       go_quiet (fail)
       go_wp2
       go_ret2
       obtain ⟨e1,e2⟩:=HR.out J true (by omega) (by simp)
       exact ⟨by rw [e1,e2];rfl,bv⟩
      ·have hv2:(v==0)=false:=by simpa using hv
       go_quiet (fail)
       go_wp2
       go_ret2
       obtain ⟨e1,e2⟩:=HR.out J false (by omega) (by simp;omega)
       exact ⟨by rw [e1,e2];rfl,bv⟩
     ·have l1:(L==0)=false:=by simpa using l0
      by_cases l2:L=2700000
      ·subst l2
       by_cases huv:u=v
       ·subst huv
        go_quiet (fail)
        go_wp2
        go_ret2
        obtain ⟨e1,e2⟩:=HR.out (J+2700000) true (by omega) (by simp)
        exact ⟨by rw [e1,e2];rfl,bv⟩
       ·have huv2:(u==v)=false:=by simpa using huv
        go_quiet (fail)
        go_wp2
        go_ret2
        obtain ⟨e1,e2⟩:=HR.out (J+2700000) false (by omega) (by simp;omega)
        exact ⟨by rw [e1,e2];rfl,bv⟩
      ·have l3:(L==2700000)=false:=by simpa using l2
       go_quiet (fail)
       go_wp2
       go_ret2
       obtain ⟨e1,e2⟩:=HR.out (J+L) false (by omega) (by simp;omega)
       exact ⟨by rw [e1,e2];rfl,bv⟩
  ·have hne:=hq.out
   have st:=OI hin hne.2.2.2
   have NX:=b6 (show (j+1)+bK v (-u)=bK x y/\J6 v (-u)=J6 x y/\J8 v (-u)=J8 x y/\¬(v=0/\ -u=0) from ⟨by omega,st.2.1.trans hne.2.1,st.2.2.trans hne.2.2.1,by omega⟩)
   have j3:j<=3:=by
    have:bK x y<=3:=by
     unfold bK
     repeat' split
     all_goals omega
    omega
   have fz:=hf.out
   clear hq hne st
   by_cases h1:0<u
   ·have h2:¬0<=v:=fun h=>hin ⟨h1,h⟩
    have h3:decide (0<=v)=false:=by simp;omega
    clear hin
    go_wp2
    exact ⟨⟨j+1,v,-u,by simp;omega,by simp [go_sem, *],by simp [go_sem, *],by intro o;simp [go_sem, *],NX.out,by omega,by omega,by omega,by omega,bw⟩,by simp [intOf];omega⟩
   ·have h2:decide (0<u)=false:=by simp;omega
    clear hin
    go_wp2
    exact ⟨⟨j+1,v,-u,by simp;omega,by simp [go_sem, *],by simp [go_sem, *],by intro o;simp [go_sem, *],NX.out,by omega,by omega,by omega,by omega,bw⟩,by simp [intOf];omega⟩
end Go.Proofs.YtdhbeoahpfimbaaGreat
