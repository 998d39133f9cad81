/- Part of the proof of TopDistances. -/
import Derived.Test.YtdhbeoahpfimbaaGreatDv
import Derived.Deep.RegionWith
namespace Go.Proofs.YtdhbeoahpfimbaaGreat
open Go.RowKit
namespace Wd
theorem tQ (x:Int) (h0:0<=x) (h1:x<=18446744073709551615):bits BinOp.and IntKind.u64 x 1152921504606846975=x%1152921504606846976:=by
 obtain ⟨n,rfl⟩:∃n:Nat,x=n:=⟨x.toNat,by omega⟩
 have:=u64_and_nat n 1152921504606846975 (by omega) (by omega)
 rw [show ((1152921504606846975:Nat):Int)=1152921504606846975 from rfl] at this
 rw [this,show (1152921504606846975:Nat)=2^60-1 from rfl,Nat.and_two_pow_sub_one_eq_mod]
 omega
theorem pR (x:Int):bits BinOp.and IntKind.i64 x 1152921504606846975=x%1152921504606846976:=by
 have e1:(BitVec.ofInt 64 x).toNat=(x%18446744073709551616).toNat:=by
  rw [BitVec.toNat_ofInt];rfl
 have e2:(BitVec.ofInt 64 1152921504606846975).toNat=1152921504606846975:=by decide
 show IntKind.i64.wrap ((BitVec.ofInt 64 x &&& BitVec.ofInt 64 1152921504606846975).toNat:Int)=_
 rw [BitVec.toNat_and,e1,e2,show (1152921504606846975:Nat)=2^60-1 from rfl,Nat.and_two_pow_sub_one_eq_mod,IntKind.wrap_i64]
 omega
theorem VG (hi lo:Int) (h0:0<=hi) (h1:hi<=72057594037927936) (h2:0<=lo) (h3:lo<=18446744073709551615):
  bits BinOp.or IntKind.u64 (hi*16) (lo/1152921504606846976)=hi*16+lo/1152921504606846976:=by
 obtain ⟨a,rfl⟩:∃n:Nat,hi=n:=⟨hi.toNat,by omega⟩
 obtain ⟨b,hb⟩:∃n:Nat,lo/1152921504606846976=n:=⟨(lo/1152921504606846976).toNat,by omega⟩
 rw [hb]
 have:=Div.oY 16 a b 4 rfl (by omega) (by omega)
 simpa using this
theorem TI (hi lo:Int) (h2:0<=lo) (h3:lo<=1152921504606846975):
  bits BinOp.or IntKind.u64 (IntKind.u64.wrap (hi*1152921504606846976)) lo=hi%16*1152921504606846976+lo:=by
 have e:IntKind.u64.wrap (hi*1152921504606846976)=hi%16*1152921504606846976:=by rw [IntKind.wrap_u64];omega
 rw [e]
 obtain ⟨a,ha⟩:∃n:Nat,hi%16=n:=⟨(hi%16).toNat,by omega⟩
 obtain ⟨b,rfl⟩:∃n:Nat,lo=n:=⟨lo.toNat,by omega⟩
 rw [ha]
 have:=Div.oY 1152921504606846976 a b 60 (by decide) (by omega) (by omega)
 simpa using this
end Wd
def o8 (n:Int):Int:=if n<0 then -n else n
theorem I4 (n:Int) (h0: -9223372036854775808<=n) (h1:n<=9223372036854775807):0<=o8 n/\o8 n<=9223372036854775808:=by unfold o8;split<;>omega
set_option maxHeartbeats 400000 in
theorem I1 (n:Int) (w:World) (h0: -9223372036854775808<=n) (h1:n<=9223372036854775807):
  Calls Tryz.prog 271 #[.int .i64 n] w fun e w'=>e= .returned (.int .u64 (o8 n))/\w=w':=by
 by_cases hn:n<0
 ·have H:Hid (o8 n= -n):=by simp [o8,hn,Hid]
  have k1:IntKind.u64.wrap n=n+18446744073709551616:=by rw [IntKind.wrap_u64];omega
  have k2:IntKind.u64.wrap (-(n+18446744073709551616))= -n:=by rw [IntKind.wrap_u64];omega
  go_enter Tryz.func271,Tryz.ntmps271
  go_wp2
  go_ways
  go_ret
  exact ⟨N3 (by rw [H.out]),rfl⟩
 ·have H:Hid (o8 n=n):=by simp [o8,hn,Hid]
  go_enter Tryz.func271,Tryz.ntmps271
  go_wp2
  go_ret
  exact ⟨N3 (by rw [H.out]),rfl⟩
def I7 (hi lo:Int):Bool:=decide (-1152921504606846976<=hi)&&decide (hi<1152921504606846976)&&decide (0<=lo)&&decide (lo<1152921504606846976)
theorem vM {hi lo:Int} (h:I7 hi lo=true): -1152921504606846976<=hi/\hi<1152921504606846976/\0<=lo/\lo<1152921504606846976:=by simp [I7] at h;omega
theorem kM {hi lo:Int} (h: -1152921504606846976<=hi/\hi<1152921504606846976/\0<=lo/\lo<1152921504606846976):I7 hi lo=true:=by simp [I7];omega
theorem iO {hi lo:Int} (h:¬(-1152921504606846976<=hi/\hi<1152921504606846976/\0<=lo/\lo<1152921504606846976)):I7 hi lo=false:=by simp [I7];omega
set_option maxHeartbeats 400000 in
theorem C8 (a b:Int) (w:World):
  Calls Tryz.prog 311 #[.agg #[.int .i64 a,.int .i64 b]] w fun e w'=>e= .returned (.bool (I7 a b))/\Below w.heap.size w w':=by
 by_cases h1: -1152921504606846976<=a
 ·by_cases h2:a<1152921504606846976
  ·by_cases h3:0<=b
   ·by_cases h4:b<1152921504606846976
    ·have H:=b6 (kM ⟨h1,h2,h3,h4⟩)
     go_enter Tryz.func311,Tryz.ntmps311
     go_wp2
     go_ret
     exact ⟨by rw [H.out];rfl,bv⟩
    ·have H:=b6 (iO (hi:=a) (lo:=b) (by omega))
     go_enter Tryz.func311,Tryz.ntmps311
     go_wp2
     go_ret
     exact ⟨by rw [H.out];rfl,bv⟩
   ·have H:=b6 (iO (hi:=a) (lo:=b) (by omega))
    go_enter Tryz.func311,Tryz.ntmps311
    go_wp2
    go_ret
    exact ⟨by rw [H.out];rfl,bv⟩
  ·have H:=b6 (iO (hi:=a) (lo:=b) (by omega))
   go_enter Tryz.func311,Tryz.ntmps311
   go_wp2
   go_ret
   exact ⟨by rw [H.out];rfl,bv⟩
 ·have H:=b6 (iO (hi:=a) (lo:=b) (by omega))
  go_enter Tryz.func311,Tryz.ntmps311
  go_wp2
  go_ret
  exact ⟨by rw [H.out];rfl,bv⟩
set_option maxHeartbeats 400000 in
theorem JW (hi lo x y:Int) (w:World) (h0: -4611686018427387904<=hi) (h1:hi<=4611686018427387904) (h2: -9223372036854775808<=lo) (h3:lo<=9223372036854775807)
  (hx:hi+lo/1152921504606846976=x) (hy:lo%1152921504606846976=y) (h4:I7 x y=true):
  Calls Tryz.prog 310 #[.int .i64 hi,.int .i64 lo] w fun e w'=>e= .returned (.tuple #[.agg #[.int .i64 x,.int .i64 y],.int .i64 0])/\Below w.heap.size w w':=by
 have m:=Wd.pR lo
 rw [hy] at m
 go_enter Tryz.func310,Tryz.ntmps310
 go_wp2_with (go_at_call 311;refine am (C8 _ _ _) ?_;intro w' hb;replace hb:=mU;obtain ⟨hcell,hfroz,hz,_⟩:=mB)
 exact bodyPost_ret (v:= .tuple #[.agg #[.int .i64 x,.int .i64 y],.int .i64 0]) (by first|(simp only [results,Tryz.results310];go_simp;done)|simp [results,Tryz.results310,go_sem, *]) rfl ⟨rfl,bv⟩
set_option maxHeartbeats 1000000 in
theorem NV (h l x y:Int) (w:World) (h0:0<=h) (h1:h<72057594037927936) (h2:0<=l) (h3:l<=18446744073709551615)
  (hx:h*16+l/1152921504606846976=x) (hy:l%1152921504606846976=y):
  Calls Tryz.prog 272 #[.agg #[.int .u64 h,.int .u64 l,.bool false]] w fun e w'=>e= .returned (.tuple #[.agg #[.int .i64 x,.int .i64 y],.int .i64 0])/\Below w.heap.size w w':=by
 have ho:=Wd.VG h l h0 (by omega) h2 h3
 have ha:=Wd.tQ l h2 h3
 have hs:IntKind.u64.wrap (h*16)=h*16:=IntWalk.u64_in _ (by omega)
 rw [hx] at ho
 rw [hy] at ha
 have F:=fun w=>JW x y x y w (by omega) (by omega) (by omega) (by omega) (by omega) (by omega) (kM (by omega))
 replace F:=b6 F
 have b0:0<=x:=by omega
 have b1:x<1152921504606846976:=by omega
 have b2:0<=y:=by omega
 have b3:y<1152921504606846976:=by omega
 clear hx hy
 go_enter Tryz.func272,Tryz.ntmps272
 go_wp2
 go_quiet (fail)
 clear ho ha hs
 go_wp2_with (go_at_call 310;refine am (F.out _) ?_;intro w' hb;replace hb:=mU;obtain ⟨hcell,hfroz,hz,_⟩:=mB)
 exact bodyPost_ret (v:= .tuple #[.agg #[.int .i64 x,.int .i64 y],.int .i64 0]) (by first|(simp only [results,Tryz.results272];go_simp;done)|simp [results,Tryz.results272,go_sem, *]) rfl ⟨rfl,bv⟩
set_option maxHeartbeats 1000000 in
theorem OM (h l x y X Y:Int) (w:World) (h0:0<=h) (h1:h<72057594037927936\/(h=72057594037927936/\l=0)) (h2:0<=l) (h3:l<=18446744073709551615)
  (hx:h*16+l/1152921504606846976=x) (hy:l%1152921504606846976=y) (hX: -x+ -y/1152921504606846976=X) (hY: -y%1152921504606846976=Y):
  Calls Tryz.prog 272 #[.agg #[.int .u64 h,.int .u64 l,.bool true]] w fun e w'=>e= .returned (.tuple #[.agg #[.int .i64 X,.int .i64 Y],.int .i64 0])/\Below w.heap.size w w':=by
 have ho:=Wd.VG h l h0 (by omega) h2 h3
 have ha:=Wd.tQ l h2 h3
 have hs:IntKind.u64.wrap (h*16)=h*16:=IntWalk.u64_in _ (by omega)
 rw [hx] at ho
 rw [hy] at ha
 have F:=fun w=>JW (-x) (-y) X Y w (by omega) (by omega) (by omega) (by omega) hX hY (kM (by omega))
 replace F:=b6 F
 have b0:0<=x:=by omega
 have b1:x<=1152921504606846976:=by omega
 have b2:0<=y:=by omega
 have b3:y<1152921504606846976:=by omega
 clear hx hy hX hY
 have hc:(72057594037927936<=h/\h<=72057594037927936/\l<=0)\/h<72057594037927936:=by omega
 clear h1
 rcases hc with ⟨c1,c2,c3⟩|c1
 case' inl=>have c4:(h==72057594037927936)=true:=by rw [show h=72057594037927936 by omega];rfl
 all_goals
  go_enter Tryz.func272,Tryz.ntmps272
  go_wp2
  go_quiet (fail)
  clear ho ha hs
  go_wp2_with (go_at_call 310;refine am (F.out _) ?_;intro w' hb;replace hb:=mU;obtain ⟨hcell,hfroz,hz,_⟩:=mB)
  exact bodyPost_ret (v:= .tuple #[.agg #[.int .i64 X,.int .i64 Y],.int .i64 0]) (by first|(simp only [results,Tryz.results272];go_simp;done)|simp [results,Tryz.results272,go_sem, *]) rfl ⟨rfl,bv⟩
def CT (h l:Int) (n:Bool):Int:=if n then -(h*18446744073709551616+l) else h*18446744073709551616+l
def sW (V:Int):Bool:=decide (-1329227995784915872903807060280344576<=V)&&decide (V<1329227995784915872903807060280344576)
theorem a0t {V:Int} (h:sW V=true): -1329227995784915872903807060280344576<=V/\V<1329227995784915872903807060280344576:=by simpa [sW] using h
theorem XD (h l:Int) (n:Bool) (w:World) (h0:0<=h) (h2:0<=l) (h3:l<=18446744073709551615) (hv:sW (CT h l n)=true):
  Calls Tryz.prog 272 #[.agg #[.int .u64 h,.int .u64 l,.bool n]] w fun e w'=>e= .returned (.tuple #[.agg #[.int .i64 (CT h l n/1152921504606846976),.int .i64 (CT h l n%1152921504606846976)],.int .i64 0])/\Below w.heap.size w w':=by
 have v:=a0t hv
 cases n
 ·simp only [CT,Bool.false_eq_true,if_false] at*
  rw [show (h*18446744073709551616+l)/1152921504606846976=h*16+l/1152921504606846976 by omega,show (h*18446744073709551616+l)%1152921504606846976=l%1152921504606846976 by omega]
  exact NV h l _ _ w h0 (by omega) h2 h3 rfl rfl
 ·simp only [CT,if_true] at*
  exact OM h l _ _ _ _ w h0 (by omega) h2 h3 rfl rfl (by omega) (by omega)
theorem fA (a b:Int):(o8 a*o8 b=a*b/\0<=a*b)\/(o8 a*o8 b= -(a*b)/\a*b<0):=by
 unfold o8
 split<;>split
 ·left;rw [Int.neg_mul_neg];exact ⟨rfl,Int.mul_nonneg_of_nonpos_of_nonpos (by omega) (by omega)⟩
 ·rename_i h1 h2
  by_cases hz:b=0
  ·left;subst hz;simp
  ·right;rw [Int.neg_mul];exact ⟨rfl,Int.mul_neg_of_neg_of_pos h1 (by omega)⟩
 ·rename_i h1 h2
  by_cases hz:a=0
  ·left;subst hz;simp
  ·right;rw [Int.mul_neg];exact ⟨rfl,Int.mul_neg_of_pos_of_neg (by omega) h2⟩
 ·left;exact ⟨rfl,Int.mul_nonneg (by omega) (by omega)⟩
theorem DY (a b:Int):(a<0/\b<0/\0<=a*b)\/(a<0/\0<b/\a*b<0)\/(a<0/\b=0/\0<=a*b)\/(0<=a/\0<=b/\0<=a*b)\/(0<a/\b<0/\a*b<0)\/(a=0/\b<0/\0<=a*b):=by
 rcases Int.lt_trichotomy a 0 with ha|ha|ha
 ·rcases Int.lt_trichotomy b 0 with hb|hb|hb
  ·left;exact ⟨ha,hb,Int.mul_nonneg_of_nonpos_of_nonpos (by omega) (by omega)⟩
  ·right;right;left;subst hb;simp;exact ha
  ·right;left;exact ⟨ha,hb,Int.mul_neg_of_neg_of_pos ha hb⟩
 ·by_cases hb:b<0
  ·right;right;right;right;right;subst ha;simp;exact hb
  ·right;right;right;left;exact ⟨by omega,by omega,Int.mul_nonneg (by omega) (by omega)⟩
 ·by_cases hb:b<0
  ·right;right;right;right;left;exact ⟨ha,hb,Int.mul_neg_of_pos_of_neg ha hb⟩
  ·right;right;right;left;exact ⟨by omega,by omega,Int.mul_nonneg (by omega) (by omega)⟩
theorem KC (n:Int) (h0: -9223372036854775808<=n) (h1:n<=9223372036854775807):o8 n<=18446744073709551615:=by unfold o8;split<;>omega
theorem G4 (n:Int):0<=o8 n:=by unfold o8;split<;>omega
theorem YI (a b:Int) (n:Bool) (h:n=decide (a*b<0)):CT (o8 a*o8 b/18446744073709551616) (o8 a*o8 b%18446744073709551616) n=a*b:=by
 have e:o8 a*o8 b/18446744073709551616*18446744073709551616+o8 a*o8 b%18446744073709551616=o8 a*o8 b:=by
  generalize o8 a*o8 b=m;omega
 unfold CT
 rw [e]
 rcases fA a b with ⟨h1,h2⟩|⟨h1,h2⟩
 ·have:n=false:=by rw [h];exact decide_eq_false (by omega)
  rw [this,h1];simp
 ·have:n=true:=by rw [h];exact decide_eq_true h2
  rw [this,h1];simp
theorem TG (a b:Int) (_ha0: -9223372036854775808<=a) (_ha1:a<=9223372036854775807) (_hb0: -9223372036854775808<=b) (_hb1:b<=9223372036854775807):
  0<=o8 a*o8 b/18446744073709551616/\0<=o8 a*o8 b%18446744073709551616/\o8 a*o8 b%18446744073709551616<=18446744073709551615:=by
 have:=Int.mul_nonneg (G4 a) (G4 b)
 generalize o8 a*o8 b=m at*
 omega
set_option maxHeartbeats 1000000 in
theorem uV (a b x y e:Int) (w:World) (ha0: -9223372036854775808<=a) (ha1:a<=9223372036854775807) (hb0: -9223372036854775808<=b) (hb1:b<=9223372036854775807)
  (S:∀n w,n=decide (a*b<0)->Calls Tryz.prog 272 #[.agg #[.int .u64 (o8 a*o8 b/18446744073709551616),.int .u64 (o8 a*o8 b%18446744073709551616),.bool n]] w fun r w'=>r= .returned (.tuple #[.agg #[.int .i64 x,.int .i64 y],.int .i64 e])/\Below w.heap.size w w'):
  Calls Tryz.prog 221 #[.int .i64 a,.int .i64 b] w fun r w'=>r= .returned (.tuple #[.agg #[.int .i64 x,.int .i64 y],.int .i64 e])/\Below w.heap.size w w':=by
 have q1:=G4 a
 have q2:=G4 b
 have q3:=KC a ha0 ha1
 have q4:=KC b hb0 hb1
 have M:=fun w=>eL (o8 a) (o8 b) w q1 q3 q2 q4
 generalize o8 a*o8 b/18446744073709551616=h at*
 generalize o8 a*o8 b%18446744073709551616=l at*
 replace M:=b6 M
 rcases DY a b with ⟨c1,c2,c3⟩|⟨c1,c2,c3⟩|⟨c1,c2,c3⟩|⟨c1,c2,c3⟩|⟨c1,c2,c3⟩|⟨c1,c2,c3⟩
 case' inl=>replace S:=fun w=>S false w (decide_eq_false (by omega)).symm
 case' inr.inl=>replace S:=fun w=>S true w (decide_eq_true c3).symm
 case' inr.inr.inl=>replace S:=fun w=>S false w (decide_eq_false (by omega)).symm
 case' inr.inr.inr.inl=>replace S:=fun w=>S false w (decide_eq_false (by omega)).symm
 case' inr.inr.inr.inr.inl=>replace S:=fun w=>S true w (decide_eq_true c3).symm
 case' inr.inr.inr.inr.inr=>replace S:=fun w=>S false w (decide_eq_false (by omega)).symm
 case' inr.inr.inl=>have c4:b<=0:=by omega
 case' inr.inr.inl=>have c5:0<=b:=by omega
 case' inr.inr.inl=>have c6:(b != 0)=false:=by simp;omega
 case' inr.inr.inl=>clear c2
 case' inr.inr.inr.inr.inr=>have c4:a<=0:=by omega
 case' inr.inr.inr.inr.inr=>have c5:0<=a:=by omega
 case' inr.inr.inr.inr.inr=>have c6:(a != 0)=false:=by simp;omega
 case' inr.inr.inr.inr.inr=>clear c1
 case' inr.inl=>have d1:decide (b<0)=false:=decide_eq_false (by omega)
 case' inr.inl=>have d2:(a != 0)=true:=by simp;omega
 case' inr.inl=>have d3:(b != 0)=true:=by simp;omega
 case' inr.inr.inr.inr.inl=>have d1:decide (a<0)=false:=decide_eq_false (by omega)
 case' inr.inr.inr.inr.inl=>have d2:(a != 0)=true:=by simp;omega
 case' inr.inr.inr.inr.inl=>have d3:(b != 0)=true:=by simp;omega
 all_goals
  clear c3
  replace S:=b6 S
  go_enter Tryz.func221,Tryz.ntmps221
  go_wp2_with (first|(go_at_call 271;refine am (I1 _ _ (by omega) (by omega)) ?_;rintro w' rfl)|(go_at_call 109;refine am (M.out _) ?_;rintro w' rfl)|(go_at_call 272;refine am (S.out _) ?_;intro w' hb;replace hb:=mU;obtain ⟨hcell,hfroz,hz,_⟩:=mB))
  exact bodyPost_ret (v:= .tuple #[.agg #[.int .i64 x,.int .i64 y],.int .i64 e]) (by first|(simp only [results,Tryz.results221];go_simp;done)|simp [results,Tryz.results221,go_sem, *]) rfl ⟨rfl,bv⟩
theorem GP (a b:Int) (w:World) (ha0: -9223372036854775808<=a) (ha1:a<=9223372036854775807) (hb0: -9223372036854775808<=b) (hb1:b<=9223372036854775807) (hv:sW (a*b)=true):
  Calls Tryz.prog 221 #[.int .i64 a,.int .i64 b] w fun r w'=>r= .returned (.tuple #[.agg #[.int .i64 (a*b/1152921504606846976),.int .i64 (a*b%1152921504606846976)],.int .i64 0])/\Below w.heap.size w w':=by
 obtain ⟨p1,p2,p3⟩:=TG a b ha0 ha1 hb0 hb1
 refine uV a b _ _ _ w ha0 ha1 hb0 hb1 fun n w hn=> ?_
 have v:=YI a b n hn
 have s:=XD _ _ n w p1 p2 p3 (by rw [v];exact hv)
 rw [v] at s
 exact s
set_option maxHeartbeats 1000000 in
theorem C5 (a b p q:Int) (n:Bool) (w:World) (h:I7 a b=true)
  (hn:n=decide (a<0)) (hp:o8 (a*1152921504606846976+b)/18446744073709551616=p) (hq:o8 (a*1152921504606846976+b)%18446744073709551616=q):
  Calls Tryz.prog 312 #[.agg #[.int .i64 a,.int .i64 b]] w fun e w'=>e= .returned (.agg #[.int .u64 p,.int .u64 q,.bool n])/\Below w.heap.size w w':=by
 have t:=vM h
 have t0:=t.1;have t1:=t.2.1;have t2:=t.2.2.1;have t3:=t.2.2.2
 clear t h
 by_cases ha:a<0
 ·have hn':n=true:=by rw [hn];exact decide_eq_true ha
  subst hn'
  clear hn
  have e:o8 (a*1152921504606846976+b)=(-a+ -b/1152921504606846976)*1152921504606846976+ -b%1152921504606846976:=by
   unfold o8;rw [if_pos (by omega)];omega
  rw [e] at hp hq
  have m:=Wd.pR (-b)
  have x0:0<= -a+ -b/1152921504606846976:=by omega
  have x1: -a+ -b/1152921504606846976<=1152921504606846976:=by omega
  have y0:0<= -b%1152921504606846976:=by omega
  have y1: -b%1152921504606846976<=1152921504606846975:=by omega
  have o:=Wd.TI (-a+ -b/1152921504606846976) (-b%1152921504606846976) y0 y1
  generalize hx: -a+ -b/1152921504606846976=x at*
  generalize -b%1152921504606846976=y at*
  have hp':x/16=p:=by omega
  have hq':x%16*1152921504606846976+y=q:=by omega
  rw [hq'] at o
  clear hp hq hq' e
  go_enter Tryz.func312,Tryz.ntmps312
  go_wp2
  go_quiet (fail)
  go_wp2
  exact bodyPost_ret (v:= .agg #[.int .u64 p,.int .u64 q,.bool true]) (by first|(simp only [results,Tryz.results312];go_simp;done)|simp [results,Tryz.results312,go_sem, *]) rfl ⟨rfl,bv⟩
 ·have hn':n=false:=by rw [hn];exact decide_eq_false ha
  subst hn'
  clear hn
  have e:o8 (a*1152921504606846976+b)=a*1152921504606846976+b:=by
   unfold o8;rw [if_neg (by omega)]
  rw [e] at hp hq
  have o:=Wd.TI a b t2 (by omega)
  have hp':a/16=p:=by omega
  have hq':a%16*1152921504606846976+b=q:=by omega
  rw [hq'] at o
  clear hp hq hq' e
  go_enter Tryz.func312,Tryz.ntmps312
  go_wp2
  go_quiet (fail)
  go_wp2
  exact bodyPost_ret (v:= .agg #[.int .u64 p,.int .u64 q,.bool false]) (by first|(simp only [results,Tryz.results312];go_simp;done)|simp [results,Tryz.results312,go_sem, *]) rfl ⟨rfl,bv⟩
end Go.Proofs.YtdhbeoahpfimbaaGreat
