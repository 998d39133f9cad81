/- Part of the proof of TopDistances. -/
import Derived.Test.YtdhbeoahpfimbaaGreatPr
namespace Go.Proofs.YtdhbeoahpfimbaaGreat
open Brg Rot
theorem wA (z:Int) (h0: -4800000<=z) (h1:z<=4800000):100000000<=T6 (z+5400000):=by
 have d:100000000<=T6 10200000:=by decide+kernel
 have P:∀n,0<=n->n<=4800000->100000000<=T6 (n+5400000):=fun n a b=>by
  have:=(DG 5400000 (n+5400000) 10200000 (by decide) (by omega) (by omega) (by omega)).1
  omega
 by_cases g:0<=z
 ·exact P z g h1
 ·have:=P (-z) (by omega) (by omega)
  have e:=JE z
  unfold B6 at e
  rw [(Prod.mk.inj e).1] at this
  exact this
def mcL (a b:Int):Int:=K9 (a+5400000) (b+5400000)
def VI (a b:Int):Int:=K8 (a+5400000) (b+5400000)
theorem FU (A:Int) (n:Nat) (hA: -4800000<=A) (hB:A+n<=4800000):
  IH A n (mcL A (A+n)) (VI A (A+n))/\100000000<=mcL A (A+n)/\mcL A (A+n)<=VI A (A+n)/\VI A (A+n)<=1073741824/\(A<=0->0<=A+n->VI A (A+n)=1073741824):=by
 have H:=fun z h0 h1=>uO (A+5400000) (A+n+5400000) (z+5400000) (by omega:A+5400000<=z+5400000) (by omega:z+5400000<=A+n+5400000)
 have ba:=rG (A+5400000)
 have bb:=rG (A+n+5400000)
 have la:=wA A hA (by omega)
 have lb:=wA (A+n) (by omega) hB
 unfold mcL VI
 refine ⟨?_,?_,?_,?_,?_⟩
 ·intro z h0 h1
  have e:=uO (A+5400000) (A+n+5400000) (z+5400000) (by omega) (by omega)
  obtain ⟨u,hi,hu⟩:=N6 z (by omega)
  have en:=aE
  have f:(1:Rat)/2^52/1000<=1/2^60:=by decide+kernel
  have r1:=v6 e.1
  have r2:=v6 e.2
  unfold dE iv B6 at hi
  unfold f9 at hu
  simp only at hi
  unfold cZ
  clear H
  generalize fR.c' (uW*z)=c at*
  generalize (T6 (z+5400000):Rat)=x at*
  generalize (T8 (z+5400000):Rat)=y at*
  generalize (K9 (A+5400000) (A+n+5400000):Rat)=p at*
  generalize (K8 (A+5400000) (A+n+5400000):Rat)=q at*
  generalize dX=E at*
  generalize (1/2^60:Rat)=F at*
  generalize (1/2^52:Rat)=G at*
  constructor<;>grind
 ·unfold K9
  have m:dC (A+5400000) (A+n+5400000) 16200000=false:=by unfold dC;simp;omega
  rw [m]
  simp only [Bool.false_eq_true,if_false]
  omega
 ·have e:=uO (A+5400000) (A+n+5400000) (A+5400000) (by omega) (by omega)
  omega
 ·unfold K8
  split<;>omega
 ·intro h0 h1
  unfold K8
  rw [if_pos (by unfold dC;simp;omega)]
theorem a0L (A:Int) (n:Nat) (hA: -4800000<=A) (hB:A+n<=4800000):0<=jJ A n:=by
 have C:=FU A n hA hB
 have a:=MH A
 have b:=MH (A+n)
 have f:(1:Rat)/2^60<=1/1000/\(5:Rat)/2^33<=1:=by decide+kernel
 have c0:=v6 C.2.1
 have c1:=v6 C.2.2.2.1
 have k1:((100000000:Int):Rat)=100000000:=rfl
 have k2:((1073741824:Int):Rat)=1073741824:=rfl
 rw [k1] at c0
 rw [k2] at c1
 have g:=(EH A n ((VI A (A+n):Rat)/1073741824+1/2^60) ((mcL A (A+n):Rat)/1073741824-1/2^60) hA hB (fun z h1 h2=>C.1 z h1 h2) (by grind)).1
 have c2:=v6 C.2.2.1
 apply R7
 unfold jJ
 rw [Rat.intCast_sub,show ((0:Int):Rat)=0 from rfl]
 have n0:(0:Rat)<=n:=by exact_mod_cast Nat.zero_le n
 have:=b8 (a:=(VI A (A+n):Rat)/1073741824+1/2^60) (b:=gZ (A+n)-gZ A) (by have:(0:Rat)<1/2^60:=(by decide+kernel);grind) (by
  have:=Rat.mul_nonneg n0 (show 0<=1-(5:Rat)/2^33 by grind)
  grind)
 grind
theorem GL (la lb n A:Int) (k L most Y:Nat) (cl ch qh:Int) (h1:la.natAbs<=4800000) (h2:lb.natAbs<=4800000) (h3:n.natAbs<=21600000) (hA:A=min la lb) (hk:k=(lb-la).natAbs) (hL:L=(aZ n).natAbs)
  (hc:IH A k cl ch) (hz:A<=0->0<=A+k->ch=1073741824) (hch:0<=ch) (hq:ch<=qh\/(0<k/\0<X7 A k/\mP A k<=qh)) (hm:qh*L<=most*1073741824) (hY:k*k+most*most<=Y*Y):dL la lb n<=Y:=by
 obtain ⟨m,m0,m1,hm'⟩:=lP la lb n
 have E:=eP la lb n m (by omega) (by omega) h3 m0 m1 hm'
 have sb:=pQ n
 have L0:=E.2.2.1
 have L1:=E.2.2.2.1
 have L2:=E.2.2.2.2.2.2.2.2
 apply Classical.byContradiction
 intro g
 unfold dL at g
 generalize Y5 (Y6 la lb n).1=D at*
 clear E hm' m0 m1
 rcases L2 with l|l
 ·omega
 ·have G:=VO A k L most Y cl ch qh (by omega) (by omega) (by omega) hc hz hch hq hm hY (by omega)
  have c1:fR.c' (uW*(k:Int))=fR.c' (uW*(lb-la)):=by
   rcases (show (k:Int)=lb-la\/(k:Int)= -(lb-la) by omega) with e|e<;>rw [e]
   rw [Int.mul_neg,(fR.z_neg _).1]
  have c2:fR.c' (uW*A)*fR.c' (uW*(A+k))=fR.c' (uW*la)*fR.c' (uW*lb):=by
   rcases (show (A=la/\A+k=lb)\/(A=lb/\A+k=la) by omega) with ⟨e,f⟩|⟨e,f⟩<;>rw [f,e]
   exact Rat.mul_comm _ _
  have c3:fR.c' (uW*(L:Int))=fR.c' (uW*aZ n):=by
   rcases (show (L:Int)=aZ n\/(L:Int)= -aZ n by omega) with e|e<;>rw [e]
   rw [Int.mul_neg,(fR.z_neg _).1]
  have c4:f9 (fR.c' (uW*aZ n)) (fR.c' (uW*n)) (1/2^62):=by
   obtain ⟨j,e⟩:=qK n
   have a:=(qB (aZ n) (by omega)).1
   have b:=(qB n (by omega)).1
   rw [show iC (aZ n)=iC n by rw [e];exact (rH n j).2] at a
   have t:(0:Rat)<2^128:=by decide+kernel
   have f:(2:Rat)^64+2^64<=2^128*(1/2^62):=by decide+kernel
   clear G c1 c2 c3 l
   generalize fR.c' (uW*aZ n)=x at*
   generalize fR.c' (uW*n)=y at*
   unfold f9 at*
   generalize (1/2^62:Rat)=F at*
   generalize (2:Rat)^64=U at*
   generalize (iC n:Rat)=I at*
   have p:=b8 t (show 0<=2^128*(x-(y-F)) by grind)
   have q:=b8 t (show 0<=2^128*(y+F-x) by grind)
   constructor<;>grind
  rw [c1,c2,c3] at G
  have bd:=kY (fR.z_bd (uW*la)).1 (fR.z_bd (uW*lb)).1
  have w:=jX D
  have kk:kQ=5400000*2^80-2^40:=rfl
  have ee:eU=2^77:=rfl
  have X:=TU D L1 (min (uW*D) (2*kQ)) (by omega) (by omega) (by omega)
  have Z:=RZ ((2^80*Y+2^79:Nat):Int) (min (uW*D) (2*kQ)) (by omega) (by omega) (by omega)
  rw [(fR.z_nat _).1] at Z
  have f:(1:Rat)/2^60+1/2^51+1/2^62<1/2^49:=by decide+kernel
  unfold qv at l
  clear c1 c2 c3 w
  generalize fR.c' (min (uW*D) (2*kQ))=a1 at*
  generalize fR.c' (uW*D)=a2 at*
  generalize (fR.C (2^80*Y+2^79)).1=a3 at*
  generalize fR.c' (uW*(lb-la))=a4 at*
  generalize fR.c' (uW*aZ n)=a5 at*
  generalize fR.c' (uW*n)=a6 at*
  generalize fR.c' (uW*la)*fR.c' (uW*lb)=a7 at*
  unfold f9 at c4
  generalize (1/2^62:Rat)=F at*
  have p:=A6 (a:=a7) (b:=a5-a6) (e:=1) (f:=F) bd.1 bd.2 (by grind) (by grind)
  grind
def rA (la:Int):I2:=F6 (I0 la) (B6 5399999)
def rB (la:Int):I2:=F6 (I0 5399999) (B6 la)
def rQ (la:Int):I2:=(qD (rA la).1 (rA la).2 (rB la).1 (rB la).2,qS (rA la).1 (rA la).2 (rB la).1 (rB la).2)
def rX (la:Int):I2:=(5400000-cT (rQ la).2,5400000-cW (rQ la).1)
theorem IK:B6 5399999=(312,313):=by decide+kernel
theorem IY:I0 5399999=(1073741823,1073741824):=by decide+kernel
theorem AP: -100000<=M8 (-4000)/\M8 4000<=100000:=by decide+kernel
theorem a2L {a:Int} (h: -4000<=a) (k:a<=4000): -100000<=cW a/\cW a<=100000:=by
 unfold cW
 have e:max a (-1073741824)=a:=by omega
 rw [e]
 have m:=aV h
 have n:=aV k
 have s:=AP
 exact ⟨Int.le_trans s.1 m,Int.le_trans n s.2⟩
theorem a2N {a:Int} (h: -4000<=a) (k:a<=4000): -100000<=cT a/\cT a<=100000:=by
 unfold cT
 have e:min a 1073741824=a:=by omega
 rw [e]
 have m:=aV (show -4000<= -a by omega)
 have n:=aV (show -a<=4000 by omega)
 have s:=AP
 have m':=Int.le_trans s.1 m
 have n':=Int.le_trans n s.2
 generalize M8 (-a)=z at*
 omega
theorem XS {x y:Int} (h: -1073741824<=x/\x<=y/\y<=1073741824): -314<=vE x y 312 313/\vE x y 312 313<=vB x y 312 313/\vB x y 312 313<=314:=by
 unfold vE vB
 rw [sY,yY]
 omega
theorem QI {x y:Int} (h:100000000<=x/\x<=y/\y<=1073741824):99999999<=vE 1073741823 1073741824 x y/\vE 1073741823 1073741824 x y<=vB 1073741823 1073741824 x y/\vB 1073741823 1073741824 x y<=1073741824:=by
 unfold vE vB
 rw [sY,yY]
 omega
theorem wE {n d:Int} (hn:n.natAbs<=314) (hd:99999999<=d): -4000<=fl (n*1073741824) d/\fl (n*1073741824) d<=4000/\ -4000<=ce (n*1073741824) d/\ce (n*1073741824) d<=4000:=by
 unfold ce
 have pos:∀V,fl V d=V/d:=fun V=>by unfold fl;rw [if_pos (show 0<d by omega)]
 rw [pos,pos]
 have a: -4000<=n*1073741824/d:=Int.le_ediv_of_mul_le (by omega) (by omega)
 have b:n*1073741824/d<=4000:=Int.ediv_le_of_le_mul (by omega) (by omega)
 have c: -4000<= -(n*1073741824)/d:=Int.le_ediv_of_mul_le (by omega) (by omega)
 have e: -(n*1073741824)/d<=4000:=Int.ediv_le_of_le_mul (by omega) (by omega)
 omega
theorem a0R {a b c d:Int} (h: -314<=a/\a<=b/\b<=314) (k:99999999<=c/\c<=d): -4000<=qD a b c d/\qD a b c d<=qS a b c d/\qS a b c d<=4000:=by
 have p:= @wE a c (by omega) (by omega)
 have q:= @wE a d (by omega) (by omega)
 have r:= @wE b c (by omega) (by omega)
 have s:= @wE b d (by omega) (by omega)
 have t:=eO (a*1073741824) c (by omega)
 unfold qD qS
 generalize fl (a*1073741824) c=x1 at*
 generalize fl (a*1073741824) d=x2 at*
 generalize fl (b*1073741824) c=x3 at*
 generalize fl (b*1073741824) d=x4 at*
 generalize ce (a*1073741824) c=y1 at*
 generalize ce (a*1073741824) d=y2 at*
 generalize ce (b*1073741824) c=y3 at*
 generalize ce (b*1073741824) d=y4 at*
 omega
theorem mV (la:Int) (h: -4800000<=la/\la<=4800000):(N9 (I0 la)/\N9 (B6 la)/\N9 (rA la)/\N9 (rB la)/\P6 (rB la).1 (rB la).2=false)/\
  (N9 (rQ la)/\(rQ la).1<=1073741824/\ -1073741824<=(rQ la).2)/\(5300000<=(rX la).1/\(rX la).1<=5500000)/\5300000<=(rX la).2/\(rX la).2<=5500000:=by
 have s:=rG la
 have c:=rG (la+5400000)
 have cl:=wA la h.1 h.2
 have A: -314<=(rA la).1/\(rA la).1<=(rA la).2/\(rA la).2<=314:=by
  unfold rA F6;rw [IK];exact XS (x:=T6 la) (y:=T8 la) (by omega)
 have B:99999999<=(rB la).1/\(rB la).1<=(rB la).2/\(rB la).2<=1073741824:=by
  unfold rB F6;rw [IY];exact QI (x:=T6 (la+5400000)) (y:=T8 (la+5400000)) (by omega)
 have Q: -4000<=(rQ la).1/\(rQ la).1<=(rQ la).2/\(rQ la).2<=4000:=a0R A ⟨B.1,B.2.1⟩
 have x1:=a2N (a:=(rQ la).2) (by omega) (by omega)
 have x2:=a2L (a:=(rQ la).1) (by omega) (by omega)
 have X1:(rX la).1=5400000-cT (rQ la).2:=rfl
 have X2:(rX la).2=5400000-cW (rQ la).1:=rfl
 generalize cT (rQ la).2=z1 at*
 generalize cW (rQ la).1=z2 at*
 generalize rX la=X at*
 generalize rQ la=Q' at*
 generalize rA la=A' at*
 generalize rB la=B' at*
 refine ⟨⟨J3 (by unfold I0;simp only [];omega),J3 (by unfold B6;simp only [];omega),J3 (by omega),J3 (by omega),by unfold P6;simp;omega⟩,⟨J3 (by omega),by omega,by omega⟩,by omega,by omega⟩
open Go.RowKit
theorem zR (n:Int) (w:World):Calls Tryz.prog 234 #[.int .i64 n] w fun e w'=>e= .returned (.agg #[.int .i64 n,.int .i64 n])/\Below w.heap.size w w':=by
 go_enter Tryz.func234,Tryz.ntmps234
 go_wp2
 exact bodyPost_ret (v:= .agg #[.int .i64 n,.int .i64 n]) (by first|(simp only [results,Tryz.results234];go_simp;done)|simp [results,Tryz.results234,go_sem, *]) rfl ⟨rfl,bw⟩
theorem mG (n s:Int) (w:World) (h: -100000000<=n/\n<=100000000) (hs:∀_:True,max n (-n)=s):Calls Tryz.prog 162 #[.int .i64 n] w fun e w'=>e= .returned (.int .i64 s)/\Below w.heap.size w w':=by
 have W:IntKind.i64.wrap (-n)= -n:=by rw [IntKind.wrap_i64];omega
 have hs:=hs trivial
 clear h
 go_enter Tryz.func162,Tryz.ntmps162
 go_wp2
 exact bodyPost_ret (v:= .int .i64 s) (by first|(simp only [results,Tryz.results162];go_simp;done)|simp [results,Tryz.results162,go_sem, *]) rfl ⟨rfl,bw⟩
set_option maxRecDepth 100000 in
set_option maxHeartbeats 8000000 in
theorem rT (n m sl sh cl ch pl ph:Int) (w:World)
  (S:CB 125 #[.agg #[.int .i64 n,.int .i64 n]] (.tuple #[.agg #[.int .i64 sl,.int .i64 sh],.int .i64 0])) (C:CB 124 #[.agg #[.int .i64 m,.int .i64 m]] (.tuple #[.agg #[.int .i64 cl,.int .i64 ch],.int .i64 0])) (M:CB 150 #[.agg #[.int .i64 sl,.int .i64 sh],.agg #[.int .i64 cl,.int .i64 ch]] (.tuple #[.agg #[.int .i64 pl,.int .i64 ph],.int .i64 0])):
  Calls Tryz.prog 232 #[.int .i64 n,.int .i64 m] w fun e w'=>e= .returned (.tuple #[.agg #[.int .i64 pl,.int .i64 ph],.int .i64 0])/\Below w.heap.size w w':=by
 have O1:=b6 fun w=>zR n w
 have O2:=b6 fun w=>zR m w
 unfold CB at S C M
 go_enter Tryz.func232,Tryz.ntmps232
 go_wp2_with (first|(go_at_call 234;((with_reducible refine am (O1.out _) ?_);intro w' hb);replace hb:=mU;obtain ⟨hcell,hfroz,hz,z6,z7,z8,z9,_⟩:=oH;obtain ⟨w1,rfl⟩:=nm w')|(go_at_call 234;((with_reducible refine am (O2.out _) ?_);intro w' hb);replace hb:=mU;obtain ⟨hcell,hfroz,hz,z6,z7,z8,z9,_⟩:=oH;obtain ⟨w3,rfl⟩:=nm w')|(go_at_call 125;((with_reducible refine am (S.out _) ?_);intro w' hb);replace hb:=mU;obtain ⟨hcell,hfroz,hz,z6,z7,z8,z9,_⟩:=oH;obtain ⟨w2,rfl⟩:=nm w')|(go_at_call 124;((with_reducible refine am (C.out _) ?_);intro w' hb);replace hb:=mU;obtain ⟨hcell,hfroz,hz,z6,z7,z8,z9,_⟩:=oH;obtain ⟨w4,rfl⟩:=nm w')|(go_at_call 150;((with_reducible refine am (M.out _) ?_);intro w' hb);replace hb:=mU;obtain ⟨hcell,hfroz,hz,z6,z7,z8,z9,_⟩:=oH;(have rr0:=cq w' w.heap.size 0 0);(have rr1:=cq w' w.heap.size 1 0);(have rf:∀o,w'.frozen? ⟨w.heap.size,o,none⟩=false:=by intro o;simp [go_sem, *]);clear hcell hfroz;obtain ⟨w5,rfl⟩:=nm w'))
 exact bodyPost_ret (v:= .tuple #[.agg #[.int .i64 pl,.int .i64 ph],.int .i64 0]) (by first|(simp only [results,Tryz.results232];go_simp;done)|simp [results,Tryz.results232,go_sem, *]) rfl ⟨rfl,bw⟩
set_option maxRecDepth 100000 in
set_option maxHeartbeats 8000000 in
theorem zP (la al ah bl bh ql qh xl xh:Int) (w:World) (hl:la≠5399999/\la≠-5399999)
  (A:CB 232 #[.int .i64 la,.int .i64 5399999] (.tuple #[.agg #[.int .i64 al,.int .i64 ah],.int .i64 0])) (B:CB 232 #[.int .i64 5399999,.int .i64 la] (.tuple #[.agg #[.int .i64 bl,.int .i64 bh],.int .i64 0])) (D:CB 233 #[.agg #[.int .i64 al,.int .i64 ah],.agg #[.int .i64 bl,.int .i64 bh]] (.tuple #[.agg #[.int .i64 ql,.int .i64 qh],.int .i64 0])) (C:CB 154 #[.agg #[.int .i64 ql,.int .i64 qh]] (.tuple #[.agg #[.int .i64 xl,.int .i64 xh],.int .i64 0])):
  Calls Tryz.prog 161 #[.int .i64 la,.int .i64 5399999] w fun e w'=>e= .returned (.tuple #[.agg #[.int .i64 xl,.int .i64 xh],.int .i64 0])/\Below w.heap.size w w':=by
 have l1:(la==5399999)=false:=by simp;omega
 have l2:(la== -5399999)=false:=by simp;omega
 clear hl
 unfold CB at A B C D
 go_enter Tryz.func161,Tryz.ntmps161
 go_wp2_with (first|(go_at_call 232;((with_reducible refine am (A.out _) ?_);intro w' hb);replace hb:=mU;obtain ⟨hcell,hfroz,hz,z6,z7,z8,z9,_⟩:=oH;obtain ⟨w1,rfl⟩:=nm w')|(go_at_call 232;((with_reducible refine am (B.out _) ?_);intro w' hb);replace hb:=mU;obtain ⟨hcell,hfroz,hz,z6,z7,z8,z9,_⟩:=oH;obtain ⟨w2,rfl⟩:=nm w')|(go_at_call 233;((with_reducible refine am (D.out _) ?_);intro w' hb);replace hb:=mU;obtain ⟨hcell,hfroz,hz,z6,z7,z8,z9,_⟩:=oH;obtain ⟨w3,rfl⟩:=nm w')|(go_at_call 154;((with_reducible refine am (C.out _) ?_);intro w' hb);replace hb:=mU;obtain ⟨hcell,hfroz,hz,z6,z7,z8,z9,_⟩:=oH;(have rr0:=cq w' w.heap.size 0 0);(have rr1:=cq w' w.heap.size 1 0);(have rf:∀o,w'.frozen? ⟨w.heap.size,o,none⟩=false:=by intro o;simp [go_sem, *]);clear hcell hfroz;obtain ⟨w4,rfl⟩:=nm w'))
 exact bodyPost_ret (v:= .tuple #[.agg #[.int .i64 xl,.int .i64 xh],.int .i64 0]) (by first|(simp only [results,Tryz.results161];go_simp;done)|simp [results,Tryz.results161,go_sem, *]) rfl ⟨rfl,bw⟩
theorem dN (a b:Int) (w:World) (h: -100000000<=a/\a<=100000000) (k: -100000000<=b/\b<=100000000):Calls Tryz.prog 164 #[.agg #[.int .i64 a,.int .i64 b]] w fun e w'=>e= .returned (.agg #[.int .i64 (10800000-b),.int .i64 (10800000-a)])/\Below w.heap.size w w':=by
 have W1:IntKind.i64.wrap (10800000-b)=10800000-b:=by rw [IntKind.wrap_i64];omega
 have W2:IntKind.i64.wrap (10800000-a)=10800000-a:=by rw [IntKind.wrap_i64];omega
 clear h k
 go_enter Tryz.func164,Tryz.ntmps164
 go_wp2
 exact bodyPost_ret (v:= .agg #[.int .i64 (10800000-b),.int .i64 (10800000-a)]) (by first|(simp only [results,Tryz.results164];go_simp;done)|simp [results,Tryz.results164,go_sem, *]) rfl ⟨rfl,bw⟩
theorem kL (n m:Int) (h1:n.natAbs<=1000000000000) (h2:m.natAbs<=1000000000000) (p1:N9 (I0 n)) (p2:N9 (B6 m)) (p3:N9 (F6 (I0 n) (B6 m))):CB 232 #[.int .i64 n,.int .i64 m] (V3 (F6 (I0 n) (B6 m))):=
 b6 fun w=>rT n m _ _ _ _ _ _ w (I3 n h1) (J5 m h2) (A9 p1 p2 p3)
theorem pO (la:Int) (h: -4800000<=la/\la<=4800000):CB 161 #[.int .i64 la,.int .i64 5399999] (V3 (rX la)):=by
 have R:=mV la h
 obtain ⟨⟨r1,r2,r3,r4,r5⟩,⟨r6,r7,r8⟩,_⟩:=R
 have k1:N9 (B6 5399999):=by rw [IK];exact J3 (by decide)
 have k2:N9 (I0 5399999):=by rw [IY];exact J3 (by decide)
 refine b6 fun w=>zP la _ _ _ _ _ _ _ _ w (by omega) (kL la 5399999 (by omega) (by omega) r1 k1 r3) (kL 5399999 la (by omega) (by omega) k2 r2 r4) (b6 fun w=> ?_) (b6 fun w=>JD (rQ la).1 (rQ la).2 w r6 r7 r8)
 have D:=ZL (rA la).1 (rA la).2 (rB la).1 (rB la).2 w r3 r4 r5
 rw [show qD (rA la).1 (rA la).2 (rB la).1 (rB la).2=(rQ la).1 from rfl,show qS (rA la).1 (rA la).2 (rB la).1 (rB la).2=(rQ la).2 from rfl,fG r6] at D
 exact D
theorem wD (a b:Int) (w:World) (h:W7 a b):
  Calls Tryz.prog 230 #[.agg #[.int .i64 a,.int .i64 b]] w fun e w'=>e= .returned (.bool false)/\Below w.heap.size w w':=by
 unfold W7 at h
 have V:=b6 fun w=>mM a b w (by omega) (by omega) (by omega) (by omega)
 clear h
 go_enter Tryz.func230,Tryz.ntmps230
 go_wp2_with (go_at_call 59;((with_reducible refine am (V.out _) ?_);intro w' hb);replace hb:=mU;obtain ⟨hcell,hfroz,hz,z6,z7,z8,z9,_⟩:=oH;obtain ⟨w1,rfl⟩:=nm w')
 go_ret
 exact ⟨rfl,bw⟩
theorem vG (a b:Int) (Bl:Nat) (w:World) (h:W7 a b) (hl:w.cell? ⟨Bl,0,none⟩=some (.int .i64 5399999)):
  Calls Tryz.prog 231 #[.agg #[.int .i64 a,.int .i64 b],.pointer (some ⟨Bl,0,none⟩)] w fun e w'=>e= .returned (.bool false)/\Below w.heap.size w w':=by
 unfold W7 at h
 obtain ⟨s,hs⟩:∃s,max a (-a)=s:=⟨_,rfl⟩
 have S:=b6 fun w=>mG a s w (by omega) (fun _=>hs)
 have s1:(5399999<s)=False:=eq_false (by omega)
 have gl:Bl<w.heap.size:=World.block_lt_of_cell? _ _ hl
 clear h hs
 go_enter Tryz.func231,Tryz.ntmps231
 go_upto_region 1 with fail
 (refine m9 ?_;intro w' hb;replace hb:=mU;obtain ⟨hcell,hfroz,hz,z6,z7,z8,z9,_⟩:=oH)
 have t0:=cq w' w.heap.size 0 a
 have t1:=cq w' w.heap.size 1 b
 have hl:=cq w' Bl 0 5399999
 have hw0:Below w.heap.size w w':=bw
 clear hcell hfroz hz hb
 obtain ⟨V0,rfl⟩:=nm w'
 have g0:w.heap.size<V0.heap.size:=World.block_lt_of_cell? _ _ t0
 have gl:Bl<V0.heap.size:=by omega
 refine wp_region_quiet_below (by kernel_rfl) (by kernel_rfl) ?_
 repeat (first|go_big_quiet_step ((go_at_call 162;(with_reducible exact Calls.regrown_of (S.out _))))|quiet_step ((go_at_call 162;(with_reducible exact Calls.regrown_of (S.out _)))))
 refine wpQuiet_nil ?_;intro w' hw';have hb:=i8 hw';clear hw';replace hb:=mU;obtain ⟨hcell,hfroz,hz,z6,z7,z8,z9,_⟩:=oH
 go_wp2
 go_ret
 exact ⟨rfl,bw⟩
set_option maxRecDepth 100000 in
set_option maxHeartbeats 8000000 in
theorem a1x (a b:Int) (B cp:Nat) (w:World) (p0:W7 a b) (h0:w.cell? ⟨B,0,none⟩=some (.int .i64 a)) (h1:w.cell? ⟨B,1,none⟩=some (.int .i64 b)):
  Calls Tryz.prog 276 #[.slice (some ⟨B,0,none⟩) 1 cp,.func (.func 230) #[] #[]] w fun e w'=>e= .returned (.int .i64 (-1))/\Below w.heap.size w w':=by
 have R0:=b6 fun w=>wD a b w p0
 have gB:B<w.heap.size:=World.block_lt_of_cell? _ _ h0
 clear p0
 go_enter Tryz.func276,Tryz.ntmps276
 go_wp2
 refine wp_loop_rounds 2 ?_
 rw [rounds_succ]
 go_wp2_with (go_at_call 230;((with_reducible refine am (R0.out _) ?_);intro w' hb);replace hb:=mU;obtain ⟨hcell,hfroz,hz,z6,z7,z8,z9,_⟩:=oH;obtain ⟨w1,rfl⟩:=nm w')
 rw [rounds_succ]
 go_wp2
 go_ret
 exact ⟨rfl,bw⟩
theorem YO (a b:Int) (B cp:Nat) (w:World) (p0:W7 a b) (h0:w.cell? ⟨B,0,none⟩=some (.int .i64 a)) (h1:w.cell? ⟨B,1,none⟩=some (.int .i64 b)):
  Calls Tryz.prog 229 #[.slice (some ⟨B,0,none⟩) 1 cp,.func (.func 230) #[] #[]] w fun e w'=>e= .returned (.bool false)/\Below w.heap.size w w':=by
 have R:=b6 (a1x a b B cp w p0 h0 h1)
 clear p0 h0 h1
 go_enter Tryz.func229,Tryz.ntmps229
 go_wp2_with (go_at_call 276;((with_reducible refine am R.out ?_);intro w' hb);replace hb:=mU;obtain ⟨hcell,hfroz,hz,z6,z7,z8,z9,_⟩:=oH;obtain ⟨w1,rfl⟩:=nm w')
 go_ret
 exact ⟨rfl,bw⟩
set_option maxRecDepth 100000 in
set_option maxHeartbeats 8000000 in
theorem a2a (a b:Int) (B cp:Nat) (Bl:Nat) (w:World) (p0:W7 a b) (h0:w.cell? ⟨B,0,none⟩=some (.int .i64 a)) (h1:w.cell? ⟨B,1,none⟩=some (.int .i64 b)) (hl:w.cell? ⟨Bl,0,none⟩=some (.int .i64 5399999)):
  Calls Tryz.prog 276 #[.slice (some ⟨B,0,none⟩) 1 cp,.func (.func 231) #[] #[.pointer (some ⟨Bl,0,none⟩)]] w fun e w'=>e= .returned (.int .i64 (-1))/\Below w.heap.size w w':=by
 have R0:=b6 fun w hl=>vG a b Bl w p0 hl
 have gB:B<w.heap.size:=World.block_lt_of_cell? _ _ h0
 have gl:Bl<w.heap.size:=World.block_lt_of_cell? _ _ hl
 clear p0
 go_enter Tryz.func276,Tryz.ntmps276
 go_wp2
 refine wp_loop_rounds 2 ?_
 rw [rounds_succ]
 go_wp2_with (go_at_call 231;((with_reducible refine (R0.out _ ?hl).mono ?_);(case hl=>(simp [go_sem, *];done));rintro e w' ⟨rfl,hb⟩);replace hb:=mU;obtain ⟨hcell,hfroz,hz,z6,z7,z8,z9,_⟩:=oH;obtain ⟨w1,rfl⟩:=nm w')
 rw [rounds_succ]
 go_wp2
 go_ret
 exact ⟨rfl,bw⟩
theorem ZT (a b:Int) (B cp:Nat) (Bl:Nat) (w:World) (p0:W7 a b) (h0:w.cell? ⟨B,0,none⟩=some (.int .i64 a)) (h1:w.cell? ⟨B,1,none⟩=some (.int .i64 b)) (hl:w.cell? ⟨Bl,0,none⟩=some (.int .i64 5399999)):
  Calls Tryz.prog 229 #[.slice (some ⟨B,0,none⟩) 1 cp,.func (.func 231) #[] #[.pointer (some ⟨Bl,0,none⟩)]] w fun e w'=>e= .returned (.bool false)/\Below w.heap.size w w':=by
 have R:=b6 (a2a a b B cp Bl w p0 h0 h1 hl)
 clear p0 h0 h1 hl
 go_enter Tryz.func229,Tryz.ntmps229
 go_wp2_with (go_at_call 276;((with_reducible refine am R.out ?_);intro w' hb);replace hb:=mU;obtain ⟨hcell,hfroz,hz,z6,z7,z8,z9,_⟩:=oH;obtain ⟨w1,rfl⟩:=nm w')
 go_ret
 exact ⟨rfl,bw⟩
set_option maxRecDepth 100000 in
set_option maxHeartbeats 8000000 in
theorem TL (a b:Int) (B cp:Nat) (w:World) (p0:W7 a b) (h0:w.cell? ⟨B,0,none⟩=some (.int .i64 a)) (h1:w.cell? ⟨B,1,none⟩=some (.int .i64 b)):
  Calls Tryz.prog 160 #[.int .i64 5399999,.slice (some ⟨B,0,none⟩) 1 cp] w fun e w'=>e= .returned (.int .i64 0)/\Below w.heap.size w w':=by
 have R1:=b6 fun w (c0:w.cell? ⟨B,0,none⟩=some (.int .i64 a)) (c1:w.cell? ⟨B,1,none⟩=some (.int .i64 b))=>YO a b B cp w p0 c0 c1
 have R2:=b6 fun Bl w (c0:w.cell? ⟨B,0,none⟩=some (.int .i64 a)) (c1:w.cell? ⟨B,1,none⟩=some (.int .i64 b)) hl=>ZT a b B cp Bl w p0 c0 c1 hl
 have gB:B<w.heap.size:=World.block_lt_of_cell? _ _ h0
 clear p0
 go_enter Tryz.func160,Tryz.ntmps160
 go_wp2_with (first|(go_at_call 229;((with_reducible refine (R1.out _ ?c0 ?c1).mono ?_);(case c0=>(simp [go_sem, *];done));(case c1=>(simp [go_sem, *];done));rintro e w' ⟨rfl,hb⟩);replace hb:=mU;obtain ⟨hcell,hfroz,hz,z6,z7,z8,z9,_⟩:=oH;obtain ⟨w1,rfl⟩:=nm w')|(go_at_call 229;((with_reducible refine (R2.out _ _ ?c0 ?c1 ?hl).mono ?_);(case c0=>(simp [go_sem, *];done));(case c1=>(simp [go_sem, *];done));(case hl=>(simp [go_sem, *];done));rintro e w' ⟨rfl,hb⟩);replace hb:=mU;obtain ⟨hcell,hfroz,hz,z6,z7,z8,z9,_⟩:=oH;obtain ⟨w2,rfl⟩:=nm w'))
 go_ret
 exact ⟨rfl,bw⟩
set_option maxRecDepth 100000 in
set_option maxHeartbeats 8000000 in
theorem a1k (a b c d:Int) (B cp:Nat) (w:World) (p0:W7 a b) (p1:W7 c d) (h0:w.cell? ⟨B,0,none⟩=some (.int .i64 a)) (h1:w.cell? ⟨B,1,none⟩=some (.int .i64 b)) (h2:w.cell? ⟨B,2,none⟩=some (.int .i64 c)) (h3:w.cell? ⟨B,3,none⟩=some (.int .i64 d)):
  Calls Tryz.prog 276 #[.slice (some ⟨B,0,none⟩) 2 cp,.func (.func 230) #[] #[]] w fun e w'=>e= .returned (.int .i64 (-1))/\Below w.heap.size w w':=by
 have R0:=b6 fun w=>wD a b w p0
 have R1:=b6 fun w=>wD c d w p1
 have gB:B<w.heap.size:=World.block_lt_of_cell? _ _ h0
 clear p0 p1
 go_enter Tryz.func276,Tryz.ntmps276
 go_wp2
 refine wp_loop_rounds 3 ?_
 rw [rounds_succ]
 go_wp2_with (go_at_call 230;((with_reducible refine am (R0.out _) ?_);intro w' hb);replace hb:=mU;obtain ⟨hcell,hfroz,hz,z6,z7,z8,z9,_⟩:=oH;obtain ⟨w1,rfl⟩:=nm w')
 rw [rounds_succ]
 go_wp2_with (go_at_call 230;((with_reducible refine am (R1.out _) ?_);intro w' hb);replace hb:=mU;obtain ⟨hcell,hfroz,hz,z6,z7,z8,z9,_⟩:=oH;obtain ⟨w2,rfl⟩:=nm w')
 rw [rounds_succ]
 go_wp2
 go_ret
 exact ⟨rfl,bw⟩
theorem a0h (a b c d:Int) (B cp:Nat) (w:World) (p0:W7 a b) (p1:W7 c d) (h0:w.cell? ⟨B,0,none⟩=some (.int .i64 a)) (h1:w.cell? ⟨B,1,none⟩=some (.int .i64 b)) (h2:w.cell? ⟨B,2,none⟩=some (.int .i64 c)) (h3:w.cell? ⟨B,3,none⟩=some (.int .i64 d)):
  Calls Tryz.prog 229 #[.slice (some ⟨B,0,none⟩) 2 cp,.func (.func 230) #[] #[]] w fun e w'=>e= .returned (.bool false)/\Below w.heap.size w w':=by
 have R:=b6 (a1k a b c d B cp w p0 p1 h0 h1 h2 h3)
 clear p0 p1 h0 h1 h2 h3
 go_enter Tryz.func229,Tryz.ntmps229
 go_wp2_with (go_at_call 276;((with_reducible refine am R.out ?_);intro w' hb);replace hb:=mU;obtain ⟨hcell,hfroz,hz,z6,z7,z8,z9,_⟩:=oH;obtain ⟨w1,rfl⟩:=nm w')
 go_ret
 exact ⟨rfl,bw⟩
set_option maxRecDepth 100000 in
set_option maxHeartbeats 8000000 in
theorem a1w (a b c d:Int) (B cp:Nat) (Bl:Nat) (w:World) (p0:W7 a b) (p1:W7 c d) (h0:w.cell? ⟨B,0,none⟩=some (.int .i64 a)) (h1:w.cell? ⟨B,1,none⟩=some (.int .i64 b)) (h2:w.cell? ⟨B,2,none⟩=some (.int .i64 c)) (h3:w.cell? ⟨B,3,none⟩=some (.int .i64 d)) (hl:w.cell? ⟨Bl,0,none⟩=some (.int .i64 5399999)):
  Calls Tryz.prog 276 #[.slice (some ⟨B,0,none⟩) 2 cp,.func (.func 231) #[] #[.pointer (some ⟨Bl,0,none⟩)]] w fun e w'=>e= .returned (.int .i64 (-1))/\Below w.heap.size w w':=by
 have R0:=b6 fun w hl=>vG a b Bl w p0 hl
 have R1:=b6 fun w hl=>vG c d Bl w p1 hl
 have gB:B<w.heap.size:=World.block_lt_of_cell? _ _ h0
 have gl:Bl<w.heap.size:=World.block_lt_of_cell? _ _ hl
 clear p0 p1
 go_enter Tryz.func276,Tryz.ntmps276
 go_wp2
 refine wp_loop_rounds 3 ?_
 rw [rounds_succ]
 go_wp2_with (go_at_call 231;((with_reducible refine (R0.out _ ?hl).mono ?_);(case hl=>(simp [go_sem, *];done));rintro e w' ⟨rfl,hb⟩);replace hb:=mU;obtain ⟨hcell,hfroz,hz,z6,z7,z8,z9,_⟩:=oH;obtain ⟨w1,rfl⟩:=nm w')
 rw [rounds_succ]
 go_wp2_with (go_at_call 231;((with_reducible refine (R1.out _ ?hl).mono ?_);(case hl=>(simp [go_sem, *];done));rintro e w' ⟨rfl,hb⟩);replace hb:=mU;obtain ⟨hcell,hfroz,hz,z6,z7,z8,z9,_⟩:=oH;obtain ⟨w2,rfl⟩:=nm w')
 rw [rounds_succ]
 go_wp2
 go_ret
 exact ⟨rfl,bw⟩
theorem ZQ (a b c d:Int) (B cp:Nat) (Bl:Nat) (w:World) (p0:W7 a b) (p1:W7 c d) (h0:w.cell? ⟨B,0,none⟩=some (.int .i64 a)) (h1:w.cell? ⟨B,1,none⟩=some (.int .i64 b)) (h2:w.cell? ⟨B,2,none⟩=some (.int .i64 c)) (h3:w.cell? ⟨B,3,none⟩=some (.int .i64 d)) (hl:w.cell? ⟨Bl,0,none⟩=some (.int .i64 5399999)):
  Calls Tryz.prog 229 #[.slice (some ⟨B,0,none⟩) 2 cp,.func (.func 231) #[] #[.pointer (some ⟨Bl,0,none⟩)]] w fun e w'=>e= .returned (.bool false)/\Below w.heap.size w w':=by
 have R:=b6 (a1w a b c d B cp Bl w p0 p1 h0 h1 h2 h3 hl)
 clear p0 p1 h0 h1 h2 h3 hl
 go_enter Tryz.func229,Tryz.ntmps229
 go_wp2_with (go_at_call 276;((with_reducible refine am R.out ?_);intro w' hb);replace hb:=mU;obtain ⟨hcell,hfroz,hz,z6,z7,z8,z9,_⟩:=oH;obtain ⟨w1,rfl⟩:=nm w')
 go_ret
 exact ⟨rfl,bw⟩
set_option maxRecDepth 100000 in
set_option maxHeartbeats 8000000 in
theorem yZ (a b c d:Int) (B cp:Nat) (w:World) (p0:W7 a b) (p1:W7 c d) (h0:w.cell? ⟨B,0,none⟩=some (.int .i64 a)) (h1:w.cell? ⟨B,1,none⟩=some (.int .i64 b)) (h2:w.cell? ⟨B,2,none⟩=some (.int .i64 c)) (h3:w.cell? ⟨B,3,none⟩=some (.int .i64 d)):
  Calls Tryz.prog 160 #[.int .i64 5399999,.slice (some ⟨B,0,none⟩) 2 cp] w fun e w'=>e= .returned (.int .i64 0)/\Below w.heap.size w w':=by
 have R1:=b6 fun w (c0:w.cell? ⟨B,0,none⟩=some (.int .i64 a)) (c1:w.cell? ⟨B,1,none⟩=some (.int .i64 b)) (c2:w.cell? ⟨B,2,none⟩=some (.int .i64 c)) (c3:w.cell? ⟨B,3,none⟩=some (.int .i64 d))=>a0h a b c d B cp w p0 p1 c0 c1 c2 c3
 have R2:=b6 fun Bl w (c0:w.cell? ⟨B,0,none⟩=some (.int .i64 a)) (c1:w.cell? ⟨B,1,none⟩=some (.int .i64 b)) (c2:w.cell? ⟨B,2,none⟩=some (.int .i64 c)) (c3:w.cell? ⟨B,3,none⟩=some (.int .i64 d)) hl=>ZQ a b c d B cp Bl w p0 p1 c0 c1 c2 c3 hl
 have gB:B<w.heap.size:=World.block_lt_of_cell? _ _ h0
 clear p0 p1
 go_enter Tryz.func160,Tryz.ntmps160
 go_wp2_with (first|(go_at_call 229;((with_reducible refine (R1.out _ ?c0 ?c1 ?c2 ?c3).mono ?_);(case c0=>(simp [go_sem, *];done));(case c1=>(simp [go_sem, *];done));(case c2=>(simp [go_sem, *];done));(case c3=>(simp [go_sem, *];done));rintro e w' ⟨rfl,hb⟩);replace hb:=mU;obtain ⟨hcell,hfroz,hz,z6,z7,z8,z9,_⟩:=oH;obtain ⟨w1,rfl⟩:=nm w')|(go_at_call 229;((with_reducible refine (R2.out _ _ ?c0 ?c1 ?c2 ?c3 ?hl).mono ?_);(case c0=>(simp [go_sem, *];done));(case c1=>(simp [go_sem, *];done));(case c2=>(simp [go_sem, *];done));(case c3=>(simp [go_sem, *];done));(case hl=>(simp [go_sem, *];done));rintro e w' ⟨rfl,hb⟩);replace hb:=mU;obtain ⟨hcell,hfroz,hz,z6,z7,z8,z9,_⟩:=oH;obtain ⟨w2,rfl⟩:=nm w'))
 go_ret
 exact ⟨rfl,bw⟩
end Go.Proofs.YtdhbeoahpfimbaaGreat
