/- Part of the proof of TopDistances. -/
import Derived.Test.YtdhbeoahpfimbaaGreatGa
namespace Go.Proofs.YtdhbeoahpfimbaaGreat
open Go.RowKit
set_option maxHeartbeats 1000000 in
theorem BF (a b d p q D:Int) (up n:Bool) (w:World) (h:I7 a b=true) (hd:d≠0) (d1: -9223372036854775808<=d) (d2:d<=9223372036854775807)
  (hn:n=decide (a<0)) (hp:o8 (a*1152921504606846976+b)/18446744073709551616=p) (hq:o8 (a*1152921504606846976+b)%18446744073709551616=q) (hD:o8 d=D) (hc:D<=p):
  Calls Tryz.prog 273 #[.agg #[.int .i64 a,.int .i64 b],.int .i64 d,.bool up] w fun e w'=>e= .returned (.tuple #[.int .i64 0,.int .i64 5])/\Below w.heap.size w w':=by
 have S:=fun w=>C5 a b p q n w h hn hp hq
 have A:=fun w=>I1 d w d1 d2
 rw [hD] at A
 have hz:(d==0)=false:=by simpa using hd
 replace S:=b6 S
 replace A:=b6 A
 clear hn hp hq hD hd
 go_enter Tryz.func273,Tryz.ntmps273
 go_wp2_with (first|(go_at_call 311;refine am (C8 _ _ _) ?_;intro w' hb;replace hb:=mU;obtain ⟨hcell,hfroz,hz,_⟩:=mB)|(go_at_call 312;refine am (S.out _) ?_;intro w' hb;replace hb:=mU;obtain ⟨hcell,hfroz,hz,_⟩:=mB)|(go_at_call 271;refine am (A.out _) ?_;rintro w' rfl))
 go_ret2
 exact ⟨rfl,bv⟩
def a3u (neg:Bool) (K:Int):Int:=if neg then -K else K
set_option maxHeartbeats 1000000 in
theorem RD (a b d p q D Q R:Int) (n:Bool) (w:World) (h:I7 a b=true) (hd:d≠0) (d1: -9223372036854775808<=d) (d2:d<=9223372036854775807)
  (hn:n=decide (a<0)) (hp:o8 (a*1152921504606846976+b)/18446744073709551616=p) (hq:o8 (a*1152921504606846976+b)%18446744073709551616=q) (hD:o8 d=D) (hc:p<D)
  (hneg:(n != decide (d<0))=false) (hQ:(p*18446744073709551616+q)/D=Q) (hR:(p*18446744073709551616+q)%D=R) (hr:R<=0) (hf:Q<9223372036854775808) (_hm:Q<=18446744073709551615):
  Calls Tryz.prog 273 #[.agg #[.int .i64 a,.int .i64 b],.int .i64 d,.bool false] w fun e w'=>e= .returned (.tuple #[.int .i64 Q,.int .i64 0])/\Below w.heap.size w w':=by
 have S:=fun w=>C5 a b p q n w h hn hp hq
 have A:=fun w=>I1 d w d1 d2
 rw [hD] at A
 have D0:D<=9223372036854775808:=by rw [<-hD];exact (I4 d d1 d2).2
 have p0:0<=p:=by rw [<-hp];exact Int.ediv_nonneg (G4 _) (by omega)
 have q0:0<=q:=by rw [<-hq];exact Int.emod_nonneg _ (by omega)
 have q1:q<=18446744073709551615:=by
  have:=Int.emod_lt_of_pos (o8 (a*1152921504606846976+b)) (show (0:Int)<18446744073709551616 by omega)
  omega
 have V:=fun w=>F3 p q D w p0 hc (by omega) q0 q1
 rw [hQ,hR] at V
 have Q0:0<=Q:=by rw [<-hQ];exact Int.ediv_nonneg (by omega) (by omega)
 have hz:(d==0)=false:=by simpa using hd
 replace S:=b6 S
 replace A:=b6 A
 replace V:=b6 V
 clear hn hp hq hD hd hQ hR
 obtain ⟨sd,hsd⟩:∃sd,decide (d<0)=sd:=⟨_,rfl⟩
 rw [hsd] at hneg
 cases n<;>cases sd<;>simp only [Bool.true_bne,Bool.false_bne,Bool.not_true,Bool.not_false,Bool.true_eq_false] at hneg
 all_goals
   go_enter Tryz.func273,Tryz.ntmps273
   go_wp2_with (first|(go_at_call 311;refine am (C8 _ _ _) ?_;intro w' hb;replace hb:=mU;obtain ⟨hcell,hfroz,hz,_⟩:=mB)|(go_at_call 312;refine am (S.out _) ?_;intro w' hb;replace hb:=mU;obtain ⟨hcell,hfroz,hz,_⟩:=mB;obtain ⟨w1,rfl⟩:=nm w')|(go_at_call 271;refine am (A.out _) ?_;rintro w' rfl)|(go_at_call 110;refine (V.out _).mono ?_;rintro e w' ⟨rfl,nd,rfl⟩))
   go_ret2
   first|exact ⟨rfl,bv⟩|exact ⟨J7 ⟨by (simp only [wrap64,IntKind.wrap_u64];omega),rfl⟩,bv⟩
set_option maxHeartbeats 1000000 in
theorem OW (a b d p q D Q R:Int) (n:Bool) (w:World) (h:I7 a b=true) (hd:d≠0) (d1: -9223372036854775808<=d) (d2:d<=9223372036854775807)
  (hn:n=decide (a<0)) (hp:o8 (a*1152921504606846976+b)/18446744073709551616=p) (hq:o8 (a*1152921504606846976+b)%18446744073709551616=q) (hD:o8 d=D) (hc:p<D)
  (hneg:(n != decide (d<0))=false) (hQ:(p*18446744073709551616+q)/D=Q) (hR:(p*18446744073709551616+q)%D=R) (hr:R<=0) (hf:9223372036854775808<=Q) (hm:Q<=18446744073709551615):
  Calls Tryz.prog 273 #[.agg #[.int .i64 a,.int .i64 b],.int .i64 d,.bool false] w fun e w'=>e= .returned (.tuple #[.int .i64 0,.int .i64 5])/\Below w.heap.size w w':=by
 have S:=fun w=>C5 a b p q n w h hn hp hq
 have A:=fun w=>I1 d w d1 d2
 rw [hD] at A
 have D0:D<=9223372036854775808:=by rw [<-hD];exact (I4 d d1 d2).2
 have p0:0<=p:=by rw [<-hp];exact Int.ediv_nonneg (G4 _) (by omega)
 have q0:0<=q:=by rw [<-hq];exact Int.emod_nonneg _ (by omega)
 have q1:q<=18446744073709551615:=by
  have:=Int.emod_lt_of_pos (o8 (a*1152921504606846976+b)) (show (0:Int)<18446744073709551616 by omega)
  omega
 have V:=fun w=>F3 p q D w p0 hc (by omega) q0 q1
 rw [hQ,hR] at V
 have Q0:0<=Q:=by rw [<-hQ];exact Int.ediv_nonneg (by omega) (by omega)
 have hz:(d==0)=false:=by simpa using hd
 replace S:=b6 S
 replace A:=b6 A
 replace V:=b6 V
 clear hn hp hq hD hd hQ hR
 obtain ⟨sd,hsd⟩:∃sd,decide (d<0)=sd:=⟨_,rfl⟩
 rw [hsd] at hneg
 cases n<;>cases sd<;>simp only [Bool.true_bne,Bool.false_bne,Bool.not_true,Bool.not_false,Bool.true_eq_false] at hneg
 all_goals
   go_enter Tryz.func273,Tryz.ntmps273
   go_wp2_with (first|(go_at_call 311;refine am (C8 _ _ _) ?_;intro w' hb;replace hb:=mU;obtain ⟨hcell,hfroz,hz,_⟩:=mB)|(go_at_call 312;refine am (S.out _) ?_;intro w' hb;replace hb:=mU;obtain ⟨hcell,hfroz,hz,_⟩:=mB;obtain ⟨w1,rfl⟩:=nm w')|(go_at_call 271;refine am (A.out _) ?_;rintro w' rfl)|(go_at_call 110;refine (V.out _).mono ?_;rintro e w' ⟨rfl,nd,rfl⟩))
   go_ret2
   first|exact ⟨rfl,bv⟩|exact ⟨J7 ⟨by (simp only [wrap64,IntKind.wrap_u64];omega),rfl⟩,bv⟩
set_option maxHeartbeats 1000000 in
theorem SQ (a b d p q D Q R:Int) (n:Bool) (w:World) (h:I7 a b=true) (hd:d≠0) (d1: -9223372036854775808<=d) (d2:d<=9223372036854775807)
  (hn:n=decide (a<0)) (hp:o8 (a*1152921504606846976+b)/18446744073709551616=p) (hq:o8 (a*1152921504606846976+b)%18446744073709551616=q) (hD:o8 d=D) (hc:p<D)
  (hneg:(n != decide (d<0))=false) (hQ:(p*18446744073709551616+q)/D=Q) (hR:(p*18446744073709551616+q)%D=R) (hr:0<R) (hf:Q<9223372036854775808) (_hm:Q<=18446744073709551615):
  Calls Tryz.prog 273 #[.agg #[.int .i64 a,.int .i64 b],.int .i64 d,.bool false] w fun e w'=>e= .returned (.tuple #[.int .i64 Q,.int .i64 0])/\Below w.heap.size w w':=by
 have S:=fun w=>C5 a b p q n w h hn hp hq
 have A:=fun w=>I1 d w d1 d2
 rw [hD] at A
 have D0:D<=9223372036854775808:=by rw [<-hD];exact (I4 d d1 d2).2
 have p0:0<=p:=by rw [<-hp];exact Int.ediv_nonneg (G4 _) (by omega)
 have q0:0<=q:=by rw [<-hq];exact Int.emod_nonneg _ (by omega)
 have q1:q<=18446744073709551615:=by
  have:=Int.emod_lt_of_pos (o8 (a*1152921504606846976+b)) (show (0:Int)<18446744073709551616 by omega)
  omega
 have V:=fun w=>F3 p q D w p0 hc (by omega) q0 q1
 rw [hQ,hR] at V
 have Q0:0<=Q:=by rw [<-hQ];exact Int.ediv_nonneg (by omega) (by omega)
 have hz:(d==0)=false:=by simpa using hd
 replace S:=b6 S
 replace A:=b6 A
 replace V:=b6 V
 clear hn hp hq hD hd hQ hR
 obtain ⟨sd,hsd⟩:∃sd,decide (d<0)=sd:=⟨_,rfl⟩
 rw [hsd] at hneg
 cases n<;>cases sd<;>simp only [Bool.true_bne,Bool.false_bne,Bool.not_true,Bool.not_false,Bool.true_eq_false] at hneg
 all_goals
   go_enter Tryz.func273,Tryz.ntmps273
   go_wp2_with (first|(go_at_call 311;refine am (C8 _ _ _) ?_;intro w' hb;replace hb:=mU;obtain ⟨hcell,hfroz,hz,_⟩:=mB)|(go_at_call 312;refine am (S.out _) ?_;intro w' hb;replace hb:=mU;obtain ⟨hcell,hfroz,hz,_⟩:=mB;obtain ⟨w1,rfl⟩:=nm w')|(go_at_call 271;refine am (A.out _) ?_;rintro w' rfl)|(go_at_call 110;refine (V.out _).mono ?_;rintro e w' ⟨rfl,nd,rfl⟩))
   go_ret2
   first|exact ⟨rfl,bv⟩|exact ⟨J7 ⟨by (simp only [wrap64,IntKind.wrap_u64];omega),rfl⟩,bv⟩
set_option maxHeartbeats 1000000 in
theorem RQ (a b d p q D Q R:Int) (n:Bool) (w:World) (h:I7 a b=true) (hd:d≠0) (d1: -9223372036854775808<=d) (d2:d<=9223372036854775807)
  (hn:n=decide (a<0)) (hp:o8 (a*1152921504606846976+b)/18446744073709551616=p) (hq:o8 (a*1152921504606846976+b)%18446744073709551616=q) (hD:o8 d=D) (hc:p<D)
  (hneg:(n != decide (d<0))=false) (hQ:(p*18446744073709551616+q)/D=Q) (hR:(p*18446744073709551616+q)%D=R) (hr:0<R) (hf:9223372036854775808<=Q) (hm:Q<=18446744073709551615):
  Calls Tryz.prog 273 #[.agg #[.int .i64 a,.int .i64 b],.int .i64 d,.bool false] w fun e w'=>e= .returned (.tuple #[.int .i64 0,.int .i64 5])/\Below w.heap.size w w':=by
 have S:=fun w=>C5 a b p q n w h hn hp hq
 have A:=fun w=>I1 d w d1 d2
 rw [hD] at A
 have D0:D<=9223372036854775808:=by rw [<-hD];exact (I4 d d1 d2).2
 have p0:0<=p:=by rw [<-hp];exact Int.ediv_nonneg (G4 _) (by omega)
 have q0:0<=q:=by rw [<-hq];exact Int.emod_nonneg _ (by omega)
 have q1:q<=18446744073709551615:=by
  have:=Int.emod_lt_of_pos (o8 (a*1152921504606846976+b)) (show (0:Int)<18446744073709551616 by omega)
  omega
 have V:=fun w=>F3 p q D w p0 hc (by omega) q0 q1
 rw [hQ,hR] at V
 have Q0:0<=Q:=by rw [<-hQ];exact Int.ediv_nonneg (by omega) (by omega)
 have hz:(d==0)=false:=by simpa using hd
 replace S:=b6 S
 replace A:=b6 A
 replace V:=b6 V
 clear hn hp hq hD hd hQ hR
 obtain ⟨sd,hsd⟩:∃sd,decide (d<0)=sd:=⟨_,rfl⟩
 rw [hsd] at hneg
 cases n<;>cases sd<;>simp only [Bool.true_bne,Bool.false_bne,Bool.not_true,Bool.not_false,Bool.true_eq_false] at hneg
 all_goals
   go_enter Tryz.func273,Tryz.ntmps273
   go_wp2_with (first|(go_at_call 311;refine am (C8 _ _ _) ?_;intro w' hb;replace hb:=mU;obtain ⟨hcell,hfroz,hz,_⟩:=mB)|(go_at_call 312;refine am (S.out _) ?_;intro w' hb;replace hb:=mU;obtain ⟨hcell,hfroz,hz,_⟩:=mB;obtain ⟨w1,rfl⟩:=nm w')|(go_at_call 271;refine am (A.out _) ?_;rintro w' rfl)|(go_at_call 110;refine (V.out _).mono ?_;rintro e w' ⟨rfl,nd,rfl⟩))
   go_ret2
   first|exact ⟨rfl,bv⟩|exact ⟨J7 ⟨by (simp only [wrap64,IntKind.wrap_u64];omega),rfl⟩,bv⟩
set_option maxHeartbeats 1000000 in
theorem QC (a b d p q D Q R:Int) (n:Bool) (w:World) (h:I7 a b=true) (hd:d≠0) (d1: -9223372036854775808<=d) (d2:d<=9223372036854775807)
  (hn:n=decide (a<0)) (hp:o8 (a*1152921504606846976+b)/18446744073709551616=p) (hq:o8 (a*1152921504606846976+b)%18446744073709551616=q) (hD:o8 d=D) (hc:p<D)
  (hneg:(n != decide (d<0))=true) (hQ:(p*18446744073709551616+q)/D=Q) (hR:(p*18446744073709551616+q)%D=R) (hr:R<=0) (hf:Q<=9223372036854775808) (_hm:Q<=18446744073709551615):
  Calls Tryz.prog 273 #[.agg #[.int .i64 a,.int .i64 b],.int .i64 d,.bool false] w fun e w'=>e= .returned (.tuple #[.int .i64 (-(Q)),.int .i64 0])/\Below w.heap.size w w':=by
 have S:=fun w=>C5 a b p q n w h hn hp hq
 have A:=fun w=>I1 d w d1 d2
 rw [hD] at A
 have D0:D<=9223372036854775808:=by rw [<-hD];exact (I4 d d1 d2).2
 have p0:0<=p:=by rw [<-hp];exact Int.ediv_nonneg (G4 _) (by omega)
 have q0:0<=q:=by rw [<-hq];exact Int.emod_nonneg _ (by omega)
 have q1:q<=18446744073709551615:=by
  have:=Int.emod_lt_of_pos (o8 (a*1152921504606846976+b)) (show (0:Int)<18446744073709551616 by omega)
  omega
 have V:=fun w=>F3 p q D w p0 hc (by omega) q0 q1
 rw [hQ,hR] at V
 have Q0:0<=Q:=by rw [<-hQ];exact Int.ediv_nonneg (by omega) (by omega)
 have hz:(d==0)=false:=by simpa using hd
 replace S:=b6 S
 replace A:=b6 A
 replace V:=b6 V
 clear hn hp hq hD hd hQ hR
 obtain ⟨sd,hsd⟩:∃sd,decide (d<0)=sd:=⟨_,rfl⟩
 rw [hsd] at hneg
 cases n<;>cases sd<;>simp only [Bool.true_bne,Bool.false_bne,Bool.not_true,Bool.not_false,Bool.false_eq_true] at hneg
 all_goals
   go_enter Tryz.func273,Tryz.ntmps273
   go_wp2_with (first|(go_at_call 311;refine am (C8 _ _ _) ?_;intro w' hb;replace hb:=mU;obtain ⟨hcell,hfroz,hz,_⟩:=mB)|(go_at_call 312;refine am (S.out _) ?_;intro w' hb;replace hb:=mU;obtain ⟨hcell,hfroz,hz,_⟩:=mB;obtain ⟨w1,rfl⟩:=nm w')|(go_at_call 271;refine am (A.out _) ?_;rintro w' rfl)|(go_at_call 110;refine (V.out _).mono ?_;rintro e w' ⟨rfl,nd,rfl⟩))
   go_ret2
   first|exact ⟨rfl,bv⟩|exact ⟨J7 ⟨by (simp only [wrap64,IntKind.wrap_u64];omega),rfl⟩,bv⟩
set_option maxHeartbeats 1000000 in
theorem VD (a b d p q D Q R:Int) (n:Bool) (w:World) (h:I7 a b=true) (hd:d≠0) (d1: -9223372036854775808<=d) (d2:d<=9223372036854775807)
  (hn:n=decide (a<0)) (hp:o8 (a*1152921504606846976+b)/18446744073709551616=p) (hq:o8 (a*1152921504606846976+b)%18446744073709551616=q) (hD:o8 d=D) (hc:p<D)
  (hneg:(n != decide (d<0))=true) (hQ:(p*18446744073709551616+q)/D=Q) (hR:(p*18446744073709551616+q)%D=R) (hr:R<=0) (hf:9223372036854775808<Q) (hm:Q<=18446744073709551615):
  Calls Tryz.prog 273 #[.agg #[.int .i64 a,.int .i64 b],.int .i64 d,.bool false] w fun e w'=>e= .returned (.tuple #[.int .i64 0,.int .i64 5])/\Below w.heap.size w w':=by
 have S:=fun w=>C5 a b p q n w h hn hp hq
 have A:=fun w=>I1 d w d1 d2
 rw [hD] at A
 have D0:D<=9223372036854775808:=by rw [<-hD];exact (I4 d d1 d2).2
 have p0:0<=p:=by rw [<-hp];exact Int.ediv_nonneg (G4 _) (by omega)
 have q0:0<=q:=by rw [<-hq];exact Int.emod_nonneg _ (by omega)
 have q1:q<=18446744073709551615:=by
  have:=Int.emod_lt_of_pos (o8 (a*1152921504606846976+b)) (show (0:Int)<18446744073709551616 by omega)
  omega
 have V:=fun w=>F3 p q D w p0 hc (by omega) q0 q1
 rw [hQ,hR] at V
 have Q0:0<=Q:=by rw [<-hQ];exact Int.ediv_nonneg (by omega) (by omega)
 have hz:(d==0)=false:=by simpa using hd
 replace S:=b6 S
 replace A:=b6 A
 replace V:=b6 V
 clear hn hp hq hD hd hQ hR
 obtain ⟨sd,hsd⟩:∃sd,decide (d<0)=sd:=⟨_,rfl⟩
 rw [hsd] at hneg
 cases n<;>cases sd<;>simp only [Bool.true_bne,Bool.false_bne,Bool.not_true,Bool.not_false,Bool.false_eq_true] at hneg
 all_goals
   go_enter Tryz.func273,Tryz.ntmps273
   go_wp2_with (first|(go_at_call 311;refine am (C8 _ _ _) ?_;intro w' hb;replace hb:=mU;obtain ⟨hcell,hfroz,hz,_⟩:=mB)|(go_at_call 312;refine am (S.out _) ?_;intro w' hb;replace hb:=mU;obtain ⟨hcell,hfroz,hz,_⟩:=mB;obtain ⟨w1,rfl⟩:=nm w')|(go_at_call 271;refine am (A.out _) ?_;rintro w' rfl)|(go_at_call 110;refine (V.out _).mono ?_;rintro e w' ⟨rfl,nd,rfl⟩))
   go_ret2
   first|exact ⟨rfl,bv⟩|exact ⟨J7 ⟨by (simp only [wrap64,IntKind.wrap_u64];omega),rfl⟩,bv⟩
set_option maxHeartbeats 1000000 in
theorem QN (a b d p q D Q R:Int) (n:Bool) (w:World) (h:I7 a b=true) (hd:d≠0) (d1: -9223372036854775808<=d) (d2:d<=9223372036854775807)
  (hn:n=decide (a<0)) (hp:o8 (a*1152921504606846976+b)/18446744073709551616=p) (hq:o8 (a*1152921504606846976+b)%18446744073709551616=q) (hD:o8 d=D) (hc:p<D)
  (hneg:(n != decide (d<0))=true) (hQ:(p*18446744073709551616+q)/D=Q) (hR:(p*18446744073709551616+q)%D=R) (hr:0<R) (hf:Q+1<=9223372036854775808) (_hm:Q+1<=18446744073709551615):
  Calls Tryz.prog 273 #[.agg #[.int .i64 a,.int .i64 b],.int .i64 d,.bool false] w fun e w'=>e= .returned (.tuple #[.int .i64 (-(Q+1)),.int .i64 0])/\Below w.heap.size w w':=by
 have S:=fun w=>C5 a b p q n w h hn hp hq
 have A:=fun w=>I1 d w d1 d2
 rw [hD] at A
 have D0:D<=9223372036854775808:=by rw [<-hD];exact (I4 d d1 d2).2
 have p0:0<=p:=by rw [<-hp];exact Int.ediv_nonneg (G4 _) (by omega)
 have q0:0<=q:=by rw [<-hq];exact Int.emod_nonneg _ (by omega)
 have q1:q<=18446744073709551615:=by
  have:=Int.emod_lt_of_pos (o8 (a*1152921504606846976+b)) (show (0:Int)<18446744073709551616 by omega)
  omega
 have V:=fun w=>F3 p q D w p0 hc (by omega) q0 q1
 rw [hQ,hR] at V
 have Q0:0<=Q:=by rw [<-hQ];exact Int.ediv_nonneg (by omega) (by omega)
 have hz:(d==0)=false:=by simpa using hd
 replace S:=b6 S
 replace A:=b6 A
 replace V:=b6 V
 clear hn hp hq hD hd hQ hR
 obtain ⟨sd,hsd⟩:∃sd,decide (d<0)=sd:=⟨_,rfl⟩
 rw [hsd] at hneg
 cases n<;>cases sd<;>simp only [Bool.true_bne,Bool.false_bne,Bool.not_true,Bool.not_false,Bool.false_eq_true] at hneg
 have hz2:(Q+1==0)=false:=by simp;omega
 all_goals
   go_enter Tryz.func273,Tryz.ntmps273
   go_wp2_with (first|(go_at_call 311;refine am (C8 _ _ _) ?_;intro w' hb;replace hb:=mU;obtain ⟨hcell,hfroz,hz,_⟩:=mB)|(go_at_call 312;refine am (S.out _) ?_;intro w' hb;replace hb:=mU;obtain ⟨hcell,hfroz,hz,_⟩:=mB;obtain ⟨w1,rfl⟩:=nm w')|(go_at_call 271;refine am (A.out _) ?_;rintro w' rfl)|(go_at_call 110;refine (V.out _).mono ?_;rintro e w' ⟨rfl,nd,rfl⟩))
   go_ret2
   first|exact ⟨rfl,bv⟩|exact ⟨J7 ⟨by (simp only [wrap64,IntKind.wrap_u64];omega),rfl⟩,bv⟩
set_option maxHeartbeats 1000000 in
theorem RG (a b d p q D Q R:Int) (n:Bool) (w:World) (h:I7 a b=true) (hd:d≠0) (d1: -9223372036854775808<=d) (d2:d<=9223372036854775807)
  (hn:n=decide (a<0)) (hp:o8 (a*1152921504606846976+b)/18446744073709551616=p) (hq:o8 (a*1152921504606846976+b)%18446744073709551616=q) (hD:o8 d=D) (hc:p<D)
  (hneg:(n != decide (d<0))=true) (hQ:(p*18446744073709551616+q)/D=Q) (hR:(p*18446744073709551616+q)%D=R) (hr:0<R) (hf:9223372036854775808<Q+1) (hm:Q+1<=18446744073709551615):
  Calls Tryz.prog 273 #[.agg #[.int .i64 a,.int .i64 b],.int .i64 d,.bool false] w fun e w'=>e= .returned (.tuple #[.int .i64 0,.int .i64 5])/\Below w.heap.size w w':=by
 have S:=fun w=>C5 a b p q n w h hn hp hq
 have A:=fun w=>I1 d w d1 d2
 rw [hD] at A
 have D0:D<=9223372036854775808:=by rw [<-hD];exact (I4 d d1 d2).2
 have p0:0<=p:=by rw [<-hp];exact Int.ediv_nonneg (G4 _) (by omega)
 have q0:0<=q:=by rw [<-hq];exact Int.emod_nonneg _ (by omega)
 have q1:q<=18446744073709551615:=by
  have:=Int.emod_lt_of_pos (o8 (a*1152921504606846976+b)) (show (0:Int)<18446744073709551616 by omega)
  omega
 have V:=fun w=>F3 p q D w p0 hc (by omega) q0 q1
 rw [hQ,hR] at V
 have Q0:0<=Q:=by rw [<-hQ];exact Int.ediv_nonneg (by omega) (by omega)
 have hz:(d==0)=false:=by simpa using hd
 replace S:=b6 S
 replace A:=b6 A
 replace V:=b6 V
 clear hn hp hq hD hd hQ hR
 obtain ⟨sd,hsd⟩:∃sd,decide (d<0)=sd:=⟨_,rfl⟩
 rw [hsd] at hneg
 cases n<;>cases sd<;>simp only [Bool.true_bne,Bool.false_bne,Bool.not_true,Bool.not_false,Bool.false_eq_true] at hneg
 have hz2:(Q+1==0)=false:=by simp;omega
 all_goals
   go_enter Tryz.func273,Tryz.ntmps273
   go_wp2_with (first|(go_at_call 311;refine am (C8 _ _ _) ?_;intro w' hb;replace hb:=mU;obtain ⟨hcell,hfroz,hz,_⟩:=mB)|(go_at_call 312;refine am (S.out _) ?_;intro w' hb;replace hb:=mU;obtain ⟨hcell,hfroz,hz,_⟩:=mB;obtain ⟨w1,rfl⟩:=nm w')|(go_at_call 271;refine am (A.out _) ?_;rintro w' rfl)|(go_at_call 110;refine (V.out _).mono ?_;rintro e w' ⟨rfl,nd,rfl⟩))
   go_ret2
   first|exact ⟨rfl,bv⟩|exact ⟨J7 ⟨by (simp only [wrap64,IntKind.wrap_u64];omega),rfl⟩,bv⟩
set_option maxHeartbeats 1000000 in
theorem UM (a b d p q D Q R:Int) (n:Bool) (w:World) (h:I7 a b=true) (hd:d≠0) (d1: -9223372036854775808<=d) (d2:d<=9223372036854775807)
  (hn:n=decide (a<0)) (hp:o8 (a*1152921504606846976+b)/18446744073709551616=p) (hq:o8 (a*1152921504606846976+b)%18446744073709551616=q) (hD:o8 d=D) (hc:p<D)
  (hneg:(n != decide (d<0))=false) (hQ:(p*18446744073709551616+q)/D=Q) (hR:(p*18446744073709551616+q)%D=R) (hr:R<=0) (hf:Q<9223372036854775808) (_hm:Q<=18446744073709551615):
  Calls Tryz.prog 273 #[.agg #[.int .i64 a,.int .i64 b],.int .i64 d,.bool true] w fun e w'=>e= .returned (.tuple #[.int .i64 Q,.int .i64 0])/\Below w.heap.size w w':=by
 have S:=fun w=>C5 a b p q n w h hn hp hq
 have A:=fun w=>I1 d w d1 d2
 rw [hD] at A
 have D0:D<=9223372036854775808:=by rw [<-hD];exact (I4 d d1 d2).2
 have p0:0<=p:=by rw [<-hp];exact Int.ediv_nonneg (G4 _) (by omega)
 have q0:0<=q:=by rw [<-hq];exact Int.emod_nonneg _ (by omega)
 have q1:q<=18446744073709551615:=by
  have:=Int.emod_lt_of_pos (o8 (a*1152921504606846976+b)) (show (0:Int)<18446744073709551616 by omega)
  omega
 have V:=fun w=>F3 p q D w p0 hc (by omega) q0 q1
 rw [hQ,hR] at V
 have Q0:0<=Q:=by rw [<-hQ];exact Int.ediv_nonneg (by omega) (by omega)
 have hz:(d==0)=false:=by simpa using hd
 replace S:=b6 S
 replace A:=b6 A
 replace V:=b6 V
 clear hn hp hq hD hd hQ hR
 obtain ⟨sd,hsd⟩:∃sd,decide (d<0)=sd:=⟨_,rfl⟩
 rw [hsd] at hneg
 cases n<;>cases sd<;>simp only [Bool.true_bne,Bool.false_bne,Bool.not_true,Bool.not_false,Bool.true_eq_false] at hneg
 all_goals
   go_enter Tryz.func273,Tryz.ntmps273
   go_wp2_with (first|(go_at_call 311;refine am (C8 _ _ _) ?_;intro w' hb;replace hb:=mU;obtain ⟨hcell,hfroz,hz,_⟩:=mB)|(go_at_call 312;refine am (S.out _) ?_;intro w' hb;replace hb:=mU;obtain ⟨hcell,hfroz,hz,_⟩:=mB;obtain ⟨w1,rfl⟩:=nm w')|(go_at_call 271;refine am (A.out _) ?_;rintro w' rfl)|(go_at_call 110;refine (V.out _).mono ?_;rintro e w' ⟨rfl,nd,rfl⟩))
   go_ret2
   first|exact ⟨rfl,bv⟩|exact ⟨J7 ⟨by (simp only [wrap64,IntKind.wrap_u64];omega),rfl⟩,bv⟩
set_option maxHeartbeats 1000000 in
theorem PA (a b d p q D Q R:Int) (n:Bool) (w:World) (h:I7 a b=true) (hd:d≠0) (d1: -9223372036854775808<=d) (d2:d<=9223372036854775807)
  (hn:n=decide (a<0)) (hp:o8 (a*1152921504606846976+b)/18446744073709551616=p) (hq:o8 (a*1152921504606846976+b)%18446744073709551616=q) (hD:o8 d=D) (hc:p<D)
  (hneg:(n != decide (d<0))=false) (hQ:(p*18446744073709551616+q)/D=Q) (hR:(p*18446744073709551616+q)%D=R) (hr:R<=0) (hf:9223372036854775808<=Q) (hm:Q<=18446744073709551615):
  Calls Tryz.prog 273 #[.agg #[.int .i64 a,.int .i64 b],.int .i64 d,.bool true] w fun e w'=>e= .returned (.tuple #[.int .i64 0,.int .i64 5])/\Below w.heap.size w w':=by
 have S:=fun w=>C5 a b p q n w h hn hp hq
 have A:=fun w=>I1 d w d1 d2
 rw [hD] at A
 have D0:D<=9223372036854775808:=by rw [<-hD];exact (I4 d d1 d2).2
 have p0:0<=p:=by rw [<-hp];exact Int.ediv_nonneg (G4 _) (by omega)
 have q0:0<=q:=by rw [<-hq];exact Int.emod_nonneg _ (by omega)
 have q1:q<=18446744073709551615:=by
  have:=Int.emod_lt_of_pos (o8 (a*1152921504606846976+b)) (show (0:Int)<18446744073709551616 by omega)
  omega
 have V:=fun w=>F3 p q D w p0 hc (by omega) q0 q1
 rw [hQ,hR] at V
 have Q0:0<=Q:=by rw [<-hQ];exact Int.ediv_nonneg (by omega) (by omega)
 have hz:(d==0)=false:=by simpa using hd
 replace S:=b6 S
 replace A:=b6 A
 replace V:=b6 V
 clear hn hp hq hD hd hQ hR
 obtain ⟨sd,hsd⟩:∃sd,decide (d<0)=sd:=⟨_,rfl⟩
 rw [hsd] at hneg
 cases n<;>cases sd<;>simp only [Bool.true_bne,Bool.false_bne,Bool.not_true,Bool.not_false,Bool.true_eq_false] at hneg
 all_goals
   go_enter Tryz.func273,Tryz.ntmps273
   go_wp2_with (first|(go_at_call 311;refine am (C8 _ _ _) ?_;intro w' hb;replace hb:=mU;obtain ⟨hcell,hfroz,hz,_⟩:=mB)|(go_at_call 312;refine am (S.out _) ?_;intro w' hb;replace hb:=mU;obtain ⟨hcell,hfroz,hz,_⟩:=mB;obtain ⟨w1,rfl⟩:=nm w')|(go_at_call 271;refine am (A.out _) ?_;rintro w' rfl)|(go_at_call 110;refine (V.out _).mono ?_;rintro e w' ⟨rfl,nd,rfl⟩))
   go_ret2
   first|exact ⟨rfl,bv⟩|exact ⟨J7 ⟨by (simp only [wrap64,IntKind.wrap_u64];omega),rfl⟩,bv⟩
set_option maxHeartbeats 1000000 in
theorem RP (a b d p q D Q R:Int) (n:Bool) (w:World) (h:I7 a b=true) (hd:d≠0) (d1: -9223372036854775808<=d) (d2:d<=9223372036854775807)
  (hn:n=decide (a<0)) (hp:o8 (a*1152921504606846976+b)/18446744073709551616=p) (hq:o8 (a*1152921504606846976+b)%18446744073709551616=q) (hD:o8 d=D) (hc:p<D)
  (hneg:(n != decide (d<0))=false) (hQ:(p*18446744073709551616+q)/D=Q) (hR:(p*18446744073709551616+q)%D=R) (hr:0<R) (hf:Q+1<9223372036854775808) (_hm:Q+1<=18446744073709551615):
  Calls Tryz.prog 273 #[.agg #[.int .i64 a,.int .i64 b],.int .i64 d,.bool true] w fun e w'=>e= .returned (.tuple #[.int .i64 (Q+1),.int .i64 0])/\Below w.heap.size w w':=by
 have S:=fun w=>C5 a b p q n w h hn hp hq
 have A:=fun w=>I1 d w d1 d2
 rw [hD] at A
 have D0:D<=9223372036854775808:=by rw [<-hD];exact (I4 d d1 d2).2
 have p0:0<=p:=by rw [<-hp];exact Int.ediv_nonneg (G4 _) (by omega)
 have q0:0<=q:=by rw [<-hq];exact Int.emod_nonneg _ (by omega)
 have q1:q<=18446744073709551615:=by
  have:=Int.emod_lt_of_pos (o8 (a*1152921504606846976+b)) (show (0:Int)<18446744073709551616 by omega)
  omega
 have V:=fun w=>F3 p q D w p0 hc (by omega) q0 q1
 rw [hQ,hR] at V
 have Q0:0<=Q:=by rw [<-hQ];exact Int.ediv_nonneg (by omega) (by omega)
 have hz:(d==0)=false:=by simpa using hd
 replace S:=b6 S
 replace A:=b6 A
 replace V:=b6 V
 clear hn hp hq hD hd hQ hR
 obtain ⟨sd,hsd⟩:∃sd,decide (d<0)=sd:=⟨_,rfl⟩
 rw [hsd] at hneg
 cases n<;>cases sd<;>simp only [Bool.true_bne,Bool.false_bne,Bool.not_true,Bool.not_false,Bool.true_eq_false] at hneg
 have hz2:(Q+1==0)=false:=by simp;omega
 all_goals
   go_enter Tryz.func273,Tryz.ntmps273
   go_wp2_with (first|(go_at_call 311;refine am (C8 _ _ _) ?_;intro w' hb;replace hb:=mU;obtain ⟨hcell,hfroz,hz,_⟩:=mB)|(go_at_call 312;refine am (S.out _) ?_;intro w' hb;replace hb:=mU;obtain ⟨hcell,hfroz,hz,_⟩:=mB;obtain ⟨w1,rfl⟩:=nm w')|(go_at_call 271;refine am (A.out _) ?_;rintro w' rfl)|(go_at_call 110;refine (V.out _).mono ?_;rintro e w' ⟨rfl,nd,rfl⟩))
   go_ret2
   first|exact ⟨rfl,bv⟩|exact ⟨J7 ⟨by (simp only [wrap64,IntKind.wrap_u64];omega),rfl⟩,bv⟩
set_option maxHeartbeats 1000000 in
theorem PH (a b d p q D Q R:Int) (n:Bool) (w:World) (h:I7 a b=true) (hd:d≠0) (d1: -9223372036854775808<=d) (d2:d<=9223372036854775807)
  (hn:n=decide (a<0)) (hp:o8 (a*1152921504606846976+b)/18446744073709551616=p) (hq:o8 (a*1152921504606846976+b)%18446744073709551616=q) (hD:o8 d=D) (hc:p<D)
  (hneg:(n != decide (d<0))=false) (hQ:(p*18446744073709551616+q)/D=Q) (hR:(p*18446744073709551616+q)%D=R) (hr:0<R) (hf:9223372036854775808<=Q+1) (hm:Q+1<=18446744073709551615):
  Calls Tryz.prog 273 #[.agg #[.int .i64 a,.int .i64 b],.int .i64 d,.bool true] w fun e w'=>e= .returned (.tuple #[.int .i64 0,.int .i64 5])/\Below w.heap.size w w':=by
 have S:=fun w=>C5 a b p q n w h hn hp hq
 have A:=fun w=>I1 d w d1 d2
 rw [hD] at A
 have D0:D<=9223372036854775808:=by rw [<-hD];exact (I4 d d1 d2).2
 have p0:0<=p:=by rw [<-hp];exact Int.ediv_nonneg (G4 _) (by omega)
 have q0:0<=q:=by rw [<-hq];exact Int.emod_nonneg _ (by omega)
 have q1:q<=18446744073709551615:=by
  have:=Int.emod_lt_of_pos (o8 (a*1152921504606846976+b)) (show (0:Int)<18446744073709551616 by omega)
  omega
 have V:=fun w=>F3 p q D w p0 hc (by omega) q0 q1
 rw [hQ,hR] at V
 have Q0:0<=Q:=by rw [<-hQ];exact Int.ediv_nonneg (by omega) (by omega)
 have hz:(d==0)=false:=by simpa using hd
 replace S:=b6 S
 replace A:=b6 A
 replace V:=b6 V
 clear hn hp hq hD hd hQ hR
 obtain ⟨sd,hsd⟩:∃sd,decide (d<0)=sd:=⟨_,rfl⟩
 rw [hsd] at hneg
 cases n<;>cases sd<;>simp only [Bool.true_bne,Bool.false_bne,Bool.not_true,Bool.not_false,Bool.true_eq_false] at hneg
 have hz2:(Q+1==0)=false:=by simp;omega
 all_goals
   go_enter Tryz.func273,Tryz.ntmps273
   go_wp2_with (first|(go_at_call 311;refine am (C8 _ _ _) ?_;intro w' hb;replace hb:=mU;obtain ⟨hcell,hfroz,hz,_⟩:=mB)|(go_at_call 312;refine am (S.out _) ?_;intro w' hb;replace hb:=mU;obtain ⟨hcell,hfroz,hz,_⟩:=mB;obtain ⟨w1,rfl⟩:=nm w')|(go_at_call 271;refine am (A.out _) ?_;rintro w' rfl)|(go_at_call 110;refine (V.out _).mono ?_;rintro e w' ⟨rfl,nd,rfl⟩))
   go_ret2
   first|exact ⟨rfl,bv⟩|exact ⟨J7 ⟨by (simp only [wrap64,IntKind.wrap_u64];omega),rfl⟩,bv⟩
set_option maxHeartbeats 1000000 in
theorem OV (a b d p q D Q R:Int) (n:Bool) (w:World) (h:I7 a b=true) (hd:d≠0) (d1: -9223372036854775808<=d) (d2:d<=9223372036854775807)
  (hn:n=decide (a<0)) (hp:o8 (a*1152921504606846976+b)/18446744073709551616=p) (hq:o8 (a*1152921504606846976+b)%18446744073709551616=q) (hD:o8 d=D) (hc:p<D)
  (hneg:(n != decide (d<0))=true) (hQ:(p*18446744073709551616+q)/D=Q) (hR:(p*18446744073709551616+q)%D=R) (hr:R<=0) (hf:Q<=9223372036854775808) (_hm:Q<=18446744073709551615):
  Calls Tryz.prog 273 #[.agg #[.int .i64 a,.int .i64 b],.int .i64 d,.bool true] w fun e w'=>e= .returned (.tuple #[.int .i64 (-(Q)),.int .i64 0])/\Below w.heap.size w w':=by
 have S:=fun w=>C5 a b p q n w h hn hp hq
 have A:=fun w=>I1 d w d1 d2
 rw [hD] at A
 have D0:D<=9223372036854775808:=by rw [<-hD];exact (I4 d d1 d2).2
 have p0:0<=p:=by rw [<-hp];exact Int.ediv_nonneg (G4 _) (by omega)
 have q0:0<=q:=by rw [<-hq];exact Int.emod_nonneg _ (by omega)
 have q1:q<=18446744073709551615:=by
  have:=Int.emod_lt_of_pos (o8 (a*1152921504606846976+b)) (show (0:Int)<18446744073709551616 by omega)
  omega
 have V:=fun w=>F3 p q D w p0 hc (by omega) q0 q1
 rw [hQ,hR] at V
 have Q0:0<=Q:=by rw [<-hQ];exact Int.ediv_nonneg (by omega) (by omega)
 have hz:(d==0)=false:=by simpa using hd
 replace S:=b6 S
 replace A:=b6 A
 replace V:=b6 V
 clear hn hp hq hD hd hQ hR
 obtain ⟨sd,hsd⟩:∃sd,decide (d<0)=sd:=⟨_,rfl⟩
 rw [hsd] at hneg
 cases n<;>cases sd<;>simp only [Bool.true_bne,Bool.false_bne,Bool.not_true,Bool.not_false,Bool.false_eq_true] at hneg
 all_goals
   go_enter Tryz.func273,Tryz.ntmps273
   go_wp2_with (first|(go_at_call 311;refine am (C8 _ _ _) ?_;intro w' hb;replace hb:=mU;obtain ⟨hcell,hfroz,hz,_⟩:=mB)|(go_at_call 312;refine am (S.out _) ?_;intro w' hb;replace hb:=mU;obtain ⟨hcell,hfroz,hz,_⟩:=mB;obtain ⟨w1,rfl⟩:=nm w')|(go_at_call 271;refine am (A.out _) ?_;rintro w' rfl)|(go_at_call 110;refine (V.out _).mono ?_;rintro e w' ⟨rfl,nd,rfl⟩))
   go_ret2
   first|exact ⟨rfl,bv⟩|exact ⟨J7 ⟨by (simp only [wrap64,IntKind.wrap_u64];omega),rfl⟩,bv⟩
set_option maxHeartbeats 1000000 in
theorem TJ (a b d p q D Q R:Int) (n:Bool) (w:World) (h:I7 a b=true) (hd:d≠0) (d1: -9223372036854775808<=d) (d2:d<=9223372036854775807)
  (hn:n=decide (a<0)) (hp:o8 (a*1152921504606846976+b)/18446744073709551616=p) (hq:o8 (a*1152921504606846976+b)%18446744073709551616=q) (hD:o8 d=D) (hc:p<D)
  (hneg:(n != decide (d<0))=true) (hQ:(p*18446744073709551616+q)/D=Q) (hR:(p*18446744073709551616+q)%D=R) (hr:R<=0) (hf:9223372036854775808<Q) (hm:Q<=18446744073709551615):
  Calls Tryz.prog 273 #[.agg #[.int .i64 a,.int .i64 b],.int .i64 d,.bool true] w fun e w'=>e= .returned (.tuple #[.int .i64 0,.int .i64 5])/\Below w.heap.size w w':=by
 have S:=fun w=>C5 a b p q n w h hn hp hq
 have A:=fun w=>I1 d w d1 d2
 rw [hD] at A
 have D0:D<=9223372036854775808:=by rw [<-hD];exact (I4 d d1 d2).2
 have p0:0<=p:=by rw [<-hp];exact Int.ediv_nonneg (G4 _) (by omega)
 have q0:0<=q:=by rw [<-hq];exact Int.emod_nonneg _ (by omega)
 have q1:q<=18446744073709551615:=by
  have:=Int.emod_lt_of_pos (o8 (a*1152921504606846976+b)) (show (0:Int)<18446744073709551616 by omega)
  omega
 have V:=fun w=>F3 p q D w p0 hc (by omega) q0 q1
 rw [hQ,hR] at V
 have Q0:0<=Q:=by rw [<-hQ];exact Int.ediv_nonneg (by omega) (by omega)
 have hz:(d==0)=false:=by simpa using hd
 replace S:=b6 S
 replace A:=b6 A
 replace V:=b6 V
 clear hn hp hq hD hd hQ hR
 obtain ⟨sd,hsd⟩:∃sd,decide (d<0)=sd:=⟨_,rfl⟩
 rw [hsd] at hneg
 cases n<;>cases sd<;>simp only [Bool.true_bne,Bool.false_bne,Bool.not_true,Bool.not_false,Bool.false_eq_true] at hneg
 all_goals
   go_enter Tryz.func273,Tryz.ntmps273
   go_wp2_with (first|(go_at_call 311;refine am (C8 _ _ _) ?_;intro w' hb;replace hb:=mU;obtain ⟨hcell,hfroz,hz,_⟩:=mB)|(go_at_call 312;refine am (S.out _) ?_;intro w' hb;replace hb:=mU;obtain ⟨hcell,hfroz,hz,_⟩:=mB;obtain ⟨w1,rfl⟩:=nm w')|(go_at_call 271;refine am (A.out _) ?_;rintro w' rfl)|(go_at_call 110;refine (V.out _).mono ?_;rintro e w' ⟨rfl,nd,rfl⟩))
   go_ret2
   first|exact ⟨rfl,bv⟩|exact ⟨J7 ⟨by (simp only [wrap64,IntKind.wrap_u64];omega),rfl⟩,bv⟩
set_option maxHeartbeats 1000000 in
theorem RC (a b d p q D Q R:Int) (n:Bool) (w:World) (h:I7 a b=true) (hd:d≠0) (d1: -9223372036854775808<=d) (d2:d<=9223372036854775807)
  (hn:n=decide (a<0)) (hp:o8 (a*1152921504606846976+b)/18446744073709551616=p) (hq:o8 (a*1152921504606846976+b)%18446744073709551616=q) (hD:o8 d=D) (hc:p<D)
  (hneg:(n != decide (d<0))=true) (hQ:(p*18446744073709551616+q)/D=Q) (hR:(p*18446744073709551616+q)%D=R) (hr:0<R) (hf:Q<=9223372036854775808) (_hm:Q<=18446744073709551615):
  Calls Tryz.prog 273 #[.agg #[.int .i64 a,.int .i64 b],.int .i64 d,.bool true] w fun e w'=>e= .returned (.tuple #[.int .i64 (-(Q)),.int .i64 0])/\Below w.heap.size w w':=by
 have S:=fun w=>C5 a b p q n w h hn hp hq
 have A:=fun w=>I1 d w d1 d2
 rw [hD] at A
 have D0:D<=9223372036854775808:=by rw [<-hD];exact (I4 d d1 d2).2
 have p0:0<=p:=by rw [<-hp];exact Int.ediv_nonneg (G4 _) (by omega)
 have q0:0<=q:=by rw [<-hq];exact Int.emod_nonneg _ (by omega)
 have q1:q<=18446744073709551615:=by
  have:=Int.emod_lt_of_pos (o8 (a*1152921504606846976+b)) (show (0:Int)<18446744073709551616 by omega)
  omega
 have V:=fun w=>F3 p q D w p0 hc (by omega) q0 q1
 rw [hQ,hR] at V
 have Q0:0<=Q:=by rw [<-hQ];exact Int.ediv_nonneg (by omega) (by omega)
 have hz:(d==0)=false:=by simpa using hd
 replace S:=b6 S
 replace A:=b6 A
 replace V:=b6 V
 clear hn hp hq hD hd hQ hR
 obtain ⟨sd,hsd⟩:∃sd,decide (d<0)=sd:=⟨_,rfl⟩
 rw [hsd] at hneg
 cases n<;>cases sd<;>simp only [Bool.true_bne,Bool.false_bne,Bool.not_true,Bool.not_false,Bool.false_eq_true] at hneg
 all_goals
   go_enter Tryz.func273,Tryz.ntmps273
   go_wp2_with (first|(go_at_call 311;refine am (C8 _ _ _) ?_;intro w' hb;replace hb:=mU;obtain ⟨hcell,hfroz,hz,_⟩:=mB)|(go_at_call 312;refine am (S.out _) ?_;intro w' hb;replace hb:=mU;obtain ⟨hcell,hfroz,hz,_⟩:=mB;obtain ⟨w1,rfl⟩:=nm w')|(go_at_call 271;refine am (A.out _) ?_;rintro w' rfl)|(go_at_call 110;refine (V.out _).mono ?_;rintro e w' ⟨rfl,nd,rfl⟩))
   go_ret2
   first|exact ⟨rfl,bv⟩|exact ⟨J7 ⟨by (simp only [wrap64,IntKind.wrap_u64];omega),rfl⟩,bv⟩
set_option maxHeartbeats 1000000 in
theorem VZ (a b d p q D Q R:Int) (n:Bool) (w:World) (h:I7 a b=true) (hd:d≠0) (d1: -9223372036854775808<=d) (d2:d<=9223372036854775807)
  (hn:n=decide (a<0)) (hp:o8 (a*1152921504606846976+b)/18446744073709551616=p) (hq:o8 (a*1152921504606846976+b)%18446744073709551616=q) (hD:o8 d=D) (hc:p<D)
  (hneg:(n != decide (d<0))=true) (hQ:(p*18446744073709551616+q)/D=Q) (hR:(p*18446744073709551616+q)%D=R) (hr:0<R) (hf:9223372036854775808<Q) (hm:Q<=18446744073709551615):
  Calls Tryz.prog 273 #[.agg #[.int .i64 a,.int .i64 b],.int .i64 d,.bool true] w fun e w'=>e= .returned (.tuple #[.int .i64 0,.int .i64 5])/\Below w.heap.size w w':=by
 have S:=fun w=>C5 a b p q n w h hn hp hq
 have A:=fun w=>I1 d w d1 d2
 rw [hD] at A
 have D0:D<=9223372036854775808:=by rw [<-hD];exact (I4 d d1 d2).2
 have p0:0<=p:=by rw [<-hp];exact Int.ediv_nonneg (G4 _) (by omega)
 have q0:0<=q:=by rw [<-hq];exact Int.emod_nonneg _ (by omega)
 have q1:q<=18446744073709551615:=by
  have:=Int.emod_lt_of_pos (o8 (a*1152921504606846976+b)) (show (0:Int)<18446744073709551616 by omega)
  omega
 have V:=fun w=>F3 p q D w p0 hc (by omega) q0 q1
 rw [hQ,hR] at V
 have Q0:0<=Q:=by rw [<-hQ];exact Int.ediv_nonneg (by omega) (by omega)
 have hz:(d==0)=false:=by simpa using hd
 replace S:=b6 S
 replace A:=b6 A
 replace V:=b6 V
 clear hn hp hq hD hd hQ hR
 obtain ⟨sd,hsd⟩:∃sd,decide (d<0)=sd:=⟨_,rfl⟩
 rw [hsd] at hneg
 cases n<;>cases sd<;>simp only [Bool.true_bne,Bool.false_bne,Bool.not_true,Bool.not_false,Bool.false_eq_true] at hneg
 all_goals
   go_enter Tryz.func273,Tryz.ntmps273
   go_wp2_with (first|(go_at_call 311;refine am (C8 _ _ _) ?_;intro w' hb;replace hb:=mU;obtain ⟨hcell,hfroz,hz,_⟩:=mB)|(go_at_call 312;refine am (S.out _) ?_;intro w' hb;replace hb:=mU;obtain ⟨hcell,hfroz,hz,_⟩:=mB;obtain ⟨w1,rfl⟩:=nm w')|(go_at_call 271;refine am (A.out _) ?_;rintro w' rfl)|(go_at_call 110;refine (V.out _).mono ?_;rintro e w' ⟨rfl,nd,rfl⟩))
   go_ret2
   first|exact ⟨rfl,bv⟩|exact ⟨J7 ⟨by (simp only [wrap64,IntKind.wrap_u64];omega),rfl⟩,bv⟩
def fl (V d:Int):Int:=if 0<d then V/d else (-V)/(-d)
def ce (V d:Int):Int:= -(fl (-V) d)
theorem ZY (M D:Int) (hD:0<D):(-M)/D=if 0<M%D then -(M/D)-1 else -(M/D):=by
 have e:=Int.mul_ediv_add_emod M D
 have r0:=Int.emod_nonneg M (Int.ne_of_gt hD)
 have r1:=Int.emod_lt_of_pos M hD
 generalize M/D=Q at*
 generalize M%D=R at*
 split
 ·apply Int.le_antisymm
  ·have:(-M)/D< -Q:=Int.ediv_lt_of_lt_mul hD (by rw [Int.neg_mul,Int.mul_comm Q D];omega)
   omega
  ·apply (Int.le_ediv_iff_mul_le hD).2
   rw [Int.sub_mul,Int.neg_mul,Int.mul_comm Q D];omega
 ·apply Int.le_antisymm
  ·have:(-M)/D< -Q+1:=Int.ediv_lt_of_lt_mul hD (by rw [Int.add_mul,Int.neg_mul,Int.mul_comm Q D];omega)
   omega
  ·apply (Int.le_ediv_iff_mul_le hD).2
   rw [Int.neg_mul,Int.mul_comm Q D];omega
theorem uP (V d:Int) (hd:d≠0):fl V d=if (decide (V<0) != decide (d<0))=true then (if 0<o8 V%o8 d then -(o8 V/o8 d)-1 else -(o8 V/o8 d)) else o8 V/o8 d:=by
 have hD:0<o8 d:=by unfold o8;split<;>omega
 have h1:=ZY (o8 V) (o8 d) hD
 unfold fl
 by_cases hv:V<0
 ·have ev:o8 V= -V:=by unfold o8;rw [if_pos hv]
  by_cases hn:d<0
  ·have ed:o8 d= -d:=by unfold o8;rw [if_pos hn]
   have e2: -V/ -d=o8 V/o8 d:=by rw [ev,ed]
   rw [if_neg (by omega),e2];simp [hv,hn]
  ·have ed:o8 d=d:=by unfold o8;rw [if_neg hn]
   have e2:V/d= -o8 V/o8 d:=by rw [ev,ed,Int.neg_neg]
   rw [if_pos (by omega),e2,h1];simp [hv,hn]
 ·have ev:o8 V=V:=by unfold o8;rw [if_neg hv]
  by_cases hn:d<0
  ·have ed:o8 d= -d:=by unfold o8;rw [if_pos hn]
   have e2: -V/ -d= -o8 V/o8 d:=by rw [ev,ed]
   rw [if_neg (by omega),e2,h1];simp [hv,hn]
  ·have ed:o8 d=d:=by unfold o8;rw [if_neg hn]
   have e2:V/d=o8 V/o8 d:=by rw [ev,ed]
   rw [if_pos (by omega),e2];simp [hv,hn]
theorem TM (V d:Int) (hd:d≠0):ce V d=if (decide (V<0) != decide (d<0))=true then -(o8 V/o8 d) else (if 0<o8 V%o8 d then o8 V/o8 d+1 else o8 V/o8 d):=by
 unfold ce
 rw [uP (-V) d hd]
 have ev:o8 (-V)=o8 V:=by unfold o8;split<;>split<;>omega
 rw [ev]
 by_cases hz:V=0
 ·subst hz
  have:o8 0=0:=rfl
  rw [this];simp
 ·have e:decide (-V<0)= !decide (V<0):=by
   by_cases hv:V<0
   ·simp [hv];omega
   ·simp [hv];omega
  rw [e]
  by_cases hv:V<0<;>by_cases hn:d<0<;>simp [hv,hn]<;>split<;>omega
set_option maxHeartbeats 1000000 in
theorem SL (a b d p q D Q R:Int) (n:Bool) (w:World) (h:I7 a b=true) (hd:d≠0) (d1: -9223372036854775808<=d) (d2:d<=9223372036854775807)
  (hn:n=decide (a<0)) (hp:o8 (a*1152921504606846976+b)/18446744073709551616=p) (hq:o8 (a*1152921504606846976+b)%18446744073709551616=q) (hD:o8 d=D) (hc:p<D)
  (hneg:(n != decide (d<0))=true) (hQ:(p*18446744073709551616+q)/D=Q) (hR:(p*18446744073709551616+q)%D=R) (hr:0<R) (hf:18446744073709551615<=Q) (hm:Q<=18446744073709551615):
  Calls Tryz.prog 273 #[.agg #[.int .i64 a,.int .i64 b],.int .i64 d,.bool false] w fun e w'=>e= .returned (.tuple #[.int .i64 0,.int .i64 5])/\Below w.heap.size w w':=by
 have S:=fun w=>C5 a b p q n w h hn hp hq
 have A:=fun w=>I1 d w d1 d2
 rw [hD] at A
 have D0:D<=9223372036854775808:=by rw [<-hD];exact (I4 d d1 d2).2
 have p0:0<=p:=by rw [<-hp];exact Int.ediv_nonneg (G4 _) (by omega)
 have q0:0<=q:=by rw [<-hq];exact Int.emod_nonneg _ (by omega)
 have q1:q<=18446744073709551615:=by
  have:=Int.emod_lt_of_pos (o8 (a*1152921504606846976+b)) (show (0:Int)<18446744073709551616 by omega)
  omega
 have V:=fun w=>F3 p q D w p0 hc (by omega) q0 q1
 rw [hQ,hR] at V
 have Q0:0<=Q:=by rw [<-hQ];exact Int.ediv_nonneg (by omega) (by omega)
 have hz:(d==0)=false:=by simpa using hd
 replace S:=b6 S
 replace A:=b6 A
 replace V:=b6 V
 clear hn hp hq hD hd hQ hR
 have hz2:(IntKind.u64.wrap (Q+1)==0)=true:=by (rw [IntKind.wrap_u64,beq_iff_eq];omega)
 obtain ⟨sd,hsd⟩:∃sd,decide (d<0)=sd:=⟨_,rfl⟩
 rw [hsd] at hneg
 cases n<;>cases sd<;>simp only [Bool.true_bne,Bool.false_bne,Bool.not_true,Bool.not_false,Bool.false_eq_true] at hneg
 all_goals
   go_enter Tryz.func273,Tryz.ntmps273
   go_wp2_with (first|(go_at_call 311;refine am (C8 _ _ _) ?_;intro w' hb;replace hb:=mU;obtain ⟨hcell,hfroz,hz,_⟩:=mB)|(go_at_call 312;refine am (S.out _) ?_;intro w' hb;replace hb:=mU;obtain ⟨hcell,hfroz,hz,_⟩:=mB;obtain ⟨w1,rfl⟩:=nm w')|(go_at_call 271;refine am (A.out _) ?_;rintro w' rfl)|(go_at_call 110;refine (V.out _).mono ?_;rintro e w' ⟨rfl,nd,rfl⟩))
   go_ret2
   first|exact ⟨rfl,bv⟩|exact ⟨J7 ⟨by (simp only [wrap64,IntKind.wrap_u64];omega),rfl⟩,bv⟩
set_option maxHeartbeats 1000000 in
theorem PO (a b d p q D Q R:Int) (n:Bool) (w:World) (h:I7 a b=true) (hd:d≠0) (d1: -9223372036854775808<=d) (d2:d<=9223372036854775807)
  (hn:n=decide (a<0)) (hp:o8 (a*1152921504606846976+b)/18446744073709551616=p) (hq:o8 (a*1152921504606846976+b)%18446744073709551616=q) (hD:o8 d=D) (hc:p<D)
  (hneg:(n != decide (d<0))=false) (hQ:(p*18446744073709551616+q)/D=Q) (hR:(p*18446744073709551616+q)%D=R) (hr:0<R) (hf:18446744073709551615<=Q) (hm:Q<=18446744073709551615):
  Calls Tryz.prog 273 #[.agg #[.int .i64 a,.int .i64 b],.int .i64 d,.bool true] w fun e w'=>e= .returned (.tuple #[.int .i64 0,.int .i64 5])/\Below w.heap.size w w':=by
 have S:=fun w=>C5 a b p q n w h hn hp hq
 have A:=fun w=>I1 d w d1 d2
 rw [hD] at A
 have D0:D<=9223372036854775808:=by rw [<-hD];exact (I4 d d1 d2).2
 have p0:0<=p:=by rw [<-hp];exact Int.ediv_nonneg (G4 _) (by omega)
 have q0:0<=q:=by rw [<-hq];exact Int.emod_nonneg _ (by omega)
 have q1:q<=18446744073709551615:=by
  have:=Int.emod_lt_of_pos (o8 (a*1152921504606846976+b)) (show (0:Int)<18446744073709551616 by omega)
  omega
 have V:=fun w=>F3 p q D w p0 hc (by omega) q0 q1
 rw [hQ,hR] at V
 have Q0:0<=Q:=by rw [<-hQ];exact Int.ediv_nonneg (by omega) (by omega)
 have hz:(d==0)=false:=by simpa using hd
 replace S:=b6 S
 replace A:=b6 A
 replace V:=b6 V
 clear hn hp hq hD hd hQ hR
 have hz2:(IntKind.u64.wrap (Q+1)==0)=true:=by (rw [IntKind.wrap_u64,beq_iff_eq];omega)
 obtain ⟨sd,hsd⟩:∃sd,decide (d<0)=sd:=⟨_,rfl⟩
 rw [hsd] at hneg
 cases n<;>cases sd<;>simp only [Bool.true_bne,Bool.false_bne,Bool.not_true,Bool.not_false,Bool.true_eq_false] at hneg
 all_goals
   go_enter Tryz.func273,Tryz.ntmps273
   go_wp2_with (first|(go_at_call 311;refine am (C8 _ _ _) ?_;intro w' hb;replace hb:=mU;obtain ⟨hcell,hfroz,hz,_⟩:=mB)|(go_at_call 312;refine am (S.out _) ?_;intro w' hb;replace hb:=mU;obtain ⟨hcell,hfroz,hz,_⟩:=mB;obtain ⟨w1,rfl⟩:=nm w')|(go_at_call 271;refine am (A.out _) ?_;rintro w' rfl)|(go_at_call 110;refine (V.out _).mono ?_;rintro e w' ⟨rfl,nd,rfl⟩))
   go_ret2
   first|exact ⟨rfl,bv⟩|exact ⟨J7 ⟨by (simp only [wrap64,IntKind.wrap_u64];omega),rfl⟩,bv⟩
def zX (x:Int):Value:=if -9223372036854775808<=x/\x<=9223372036854775807 then .tuple #[.int .i64 x,.int .i64 0] else .tuple #[.int .i64 0,.int .i64 5]
theorem R9 (x:Int) (h: -9223372036854775808<=x/\x<=9223372036854775807):zX x= .tuple #[.int .i64 x,.int .i64 0]:=if_pos h
theorem L3 (x:Int) (h:¬(-9223372036854775808<=x/\x<=9223372036854775807)):zX x= .tuple #[.int .i64 0,.int .i64 5]:=if_neg h
theorem SY (a b d:Int) (w:World) (h:I7 a b=true) (hd:d≠0) (d1: -9223372036854775808<=d) (d2:d<=9223372036854775807):
  Calls Tryz.prog 273 #[.agg #[.int .i64 a,.int .i64 b],.int .i64 d,.bool false] w fun e w'=>e= .returned (zX (fl (a*1152921504606846976+b) d))/\Below w.heap.size w w':=by
 have hw:=vM h
 have hs:decide (a*1152921504606846976+b<0)=decide (a<0):=by simp only [decide_eq_decide];omega
 have F:=uP (a*1152921504606846976+b) d hd
 rw [hs] at F
 have M0:=G4 (a*1152921504606846976+b)
 have D0:0<o8 d:=by unfold o8;split<;>omega
 have D1:=(I4 d d1 d2).2
 have e:=Int.mul_ediv_add_emod (o8 (a*1152921504606846976+b)) 18446744073709551616
 have q0:=Int.emod_nonneg (o8 (a*1152921504606846976+b)) (show (18446744073709551616:Int)≠0 by omega)
 have q1:=Int.emod_lt_of_pos (o8 (a*1152921504606846976+b)) (show (0:Int)<18446744073709551616 by omega)
 have p0:0<=o8 (a*1152921504606846976+b)/18446744073709551616:=Int.ediv_nonneg M0 (by omega)
 obtain ⟨p,hp⟩:∃p,o8 (a*1152921504606846976+b)/18446744073709551616=p:=⟨_,rfl⟩
 obtain ⟨q,hq⟩:∃q,o8 (a*1152921504606846976+b)%18446744073709551616=q:=⟨_,rfl⟩
 obtain ⟨D,hD⟩:∃D,o8 d=D:=⟨_,rfl⟩
 rw [hp,hq] at e
 rw [hq] at q0 q1
 rw [hp] at p0
 have eM:o8 (a*1152921504606846976+b)=p*18446744073709551616+q:=by omega
 rw [eM,hD] at F
 rw [hD] at D0 D1
 have R0:=Int.emod_nonneg (p*18446744073709551616+q) (Int.ne_of_gt D0)
 have R1:=Int.emod_lt_of_pos (p*18446744073709551616+q) D0
 have eR:=Int.mul_ediv_add_emod (p*18446744073709551616+q) D
 by_cases hc:D<=p
 ·refine (BF a b d p q D false _ w h hd d1 d2 rfl hp hq hD hc).mono ?_
  rintro e w' ⟨rfl,hb⟩
  have big:18446744073709551616<=(p*18446744073709551616+q)/D:=(Int.le_ediv_iff_mul_le D0).2 (by omega)
  refine ⟨?_,hb⟩
  rw [L3]
  rw [F]
  split<;>(try split)<;>omega
 have hc:=Int.not_le.1 hc
 have small:(p*18446744073709551616+q)/D<18446744073709551616:=Int.ediv_lt_of_lt_mul D0 (by omega)
 have Q0:0<=(p*18446744073709551616+q)/D:=Int.ediv_nonneg (by omega) (by omega)
 obtain ⟨Q,hQ⟩:∃Q,(p*18446744073709551616+q)/D=Q:=⟨_,rfl⟩
 obtain ⟨R,hR⟩:∃R,(p*18446744073709551616+q)%D=R:=⟨_,rfl⟩
 rw [hQ] at small Q0
 rw [hR] at R0
 rw [hQ,hR] at F
 clear eR R1 e M0
 by_cases hneg:(decide (a<0) != decide (d<0))=true
 ·rw [if_pos hneg] at F
  by_cases hr:0<R
  ·rw [if_pos hr] at F
   by_cases ho:18446744073709551615<=Q
   ·refine (SL a b d p q D Q R _ w h hd d1 d2 rfl hp hq hD hc hneg hQ hR hr ho (by omega)).mono ?_
    rintro e w' ⟨rfl,hb⟩
    exact ⟨by rw [F,L3 _ (by omega)],hb⟩
   by_cases hf:Q+1<=9223372036854775808
   ·refine (QN a b d p q D Q R _ w h hd d1 d2 rfl hp hq hD hc hneg hQ hR hr hf (by omega)).mono ?_
    rintro e w' ⟨rfl,hb⟩
    exact ⟨by rw [F,show -Q-1= -(Q+1) by omega,R9 _ (by omega)],hb⟩
   ·refine (RG a b d p q D Q R _ w h hd d1 d2 rfl hp hq hD hc hneg hQ hR hr (by omega) (by omega)).mono ?_
    rintro e w' ⟨rfl,hb⟩
    exact ⟨by rw [F,L3 _ (by omega)],hb⟩
  ·rw [if_neg hr] at F
   by_cases hf:Q<=9223372036854775808
   ·refine (QC a b d p q D Q R _ w h hd d1 d2 rfl hp hq hD hc hneg hQ hR (Int.not_lt.1 hr) hf (by omega)).mono ?_
    rintro e w' ⟨rfl,hb⟩
    exact ⟨by rw [F,R9 _ (by omega)],hb⟩
   ·refine (VD a b d p q D Q R _ w h hd d1 d2 rfl hp hq hD hc hneg hQ hR (Int.not_lt.1 hr) (by omega) (by omega)).mono ?_
    rintro e w' ⟨rfl,hb⟩
    exact ⟨by rw [F,L3 _ (by omega)],hb⟩
 ·rw [if_neg hneg] at F
  replace hneg:=Bool.eq_false_iff.2 hneg
  by_cases hr:0<R
  ·by_cases hf:Q<9223372036854775808
   ·refine (SQ a b d p q D Q R _ w h hd d1 d2 rfl hp hq hD hc hneg hQ hR hr hf (by omega)).mono ?_
    rintro e w' ⟨rfl,hb⟩
    exact ⟨by rw [F,R9 _ (by omega)],hb⟩
   ·refine (RQ a b d p q D Q R _ w h hd d1 d2 rfl hp hq hD hc hneg hQ hR hr (by omega) (by omega)).mono ?_
    rintro e w' ⟨rfl,hb⟩
    exact ⟨by rw [F,L3 _ (by omega)],hb⟩
  ·by_cases hf:Q<9223372036854775808
   ·refine (RD a b d p q D Q R _ w h hd d1 d2 rfl hp hq hD hc hneg hQ hR (Int.not_lt.1 hr) hf (by omega)).mono ?_
    rintro e w' ⟨rfl,hb⟩
    exact ⟨by rw [F,R9 _ (by omega)],hb⟩
   ·refine (OW a b d p q D Q R _ w h hd d1 d2 rfl hp hq hD hc hneg hQ hR (Int.not_lt.1 hr) (by omega) (by omega)).mono ?_
    rintro e w' ⟨rfl,hb⟩
    exact ⟨by rw [F,L3 _ (by omega)],hb⟩
theorem a1P (a b d:Int) (w:World) (h:I7 a b=true) (hd:d≠0) (d1: -9223372036854775808<=d) (d2:d<=9223372036854775807):
  Calls Tryz.prog 273 #[.agg #[.int .i64 a,.int .i64 b],.int .i64 d,.bool true] w fun e w'=>e= .returned (zX (ce (a*1152921504606846976+b) d))/\Below w.heap.size w w':=by
 have hw:=vM h
 have hs:decide (a*1152921504606846976+b<0)=decide (a<0):=by simp only [decide_eq_decide];omega
 have F:=TM (a*1152921504606846976+b) d hd
 rw [hs] at F
 have M0:=G4 (a*1152921504606846976+b)
 have D0:0<o8 d:=by unfold o8;split<;>omega
 have D1:=(I4 d d1 d2).2
 have e:=Int.mul_ediv_add_emod (o8 (a*1152921504606846976+b)) 18446744073709551616
 have q0:=Int.emod_nonneg (o8 (a*1152921504606846976+b)) (show (18446744073709551616:Int)≠0 by omega)
 have q1:=Int.emod_lt_of_pos (o8 (a*1152921504606846976+b)) (show (0:Int)<18446744073709551616 by omega)
 have p0:0<=o8 (a*1152921504606846976+b)/18446744073709551616:=Int.ediv_nonneg M0 (by omega)
 obtain ⟨p,hp⟩:∃p,o8 (a*1152921504606846976+b)/18446744073709551616=p:=⟨_,rfl⟩
 obtain ⟨q,hq⟩:∃q,o8 (a*1152921504606846976+b)%18446744073709551616=q:=⟨_,rfl⟩
 obtain ⟨D,hD⟩:∃D,o8 d=D:=⟨_,rfl⟩
 rw [hp,hq] at e
 rw [hq] at q0 q1
 rw [hp] at p0
 have eM:o8 (a*1152921504606846976+b)=p*18446744073709551616+q:=by omega
 rw [eM,hD] at F
 rw [hD] at D0 D1
 have R0:=Int.emod_nonneg (p*18446744073709551616+q) (Int.ne_of_gt D0)
 have R1:=Int.emod_lt_of_pos (p*18446744073709551616+q) D0
 have eR:=Int.mul_ediv_add_emod (p*18446744073709551616+q) D
 by_cases hc:D<=p
 ·refine (BF a b d p q D true _ w h hd d1 d2 rfl hp hq hD hc).mono ?_
  rintro e w' ⟨rfl,hb⟩
  have big:18446744073709551616<=(p*18446744073709551616+q)/D:=(Int.le_ediv_iff_mul_le D0).2 (by omega)
  refine ⟨?_,hb⟩
  rw [L3]
  rw [F]
  split<;>(try split)<;>omega
 have hc:=Int.not_le.1 hc
 have small:(p*18446744073709551616+q)/D<18446744073709551616:=Int.ediv_lt_of_lt_mul D0 (by omega)
 have Q0:0<=(p*18446744073709551616+q)/D:=Int.ediv_nonneg (by omega) (by omega)
 obtain ⟨Q,hQ⟩:∃Q,(p*18446744073709551616+q)/D=Q:=⟨_,rfl⟩
 obtain ⟨R,hR⟩:∃R,(p*18446744073709551616+q)%D=R:=⟨_,rfl⟩
 rw [hQ] at small Q0
 rw [hR] at R0
 rw [hQ,hR] at F
 clear eR R1 e M0
 by_cases hneg:(decide (a<0) != decide (d<0))=true
 ·rw [if_pos hneg] at F
  by_cases hr:0<R
  ·by_cases hf:Q<=9223372036854775808
   ·refine (RC a b d p q D Q R _ w h hd d1 d2 rfl hp hq hD hc hneg hQ hR hr hf (by omega)).mono ?_
    rintro e w' ⟨rfl,hb⟩
    exact ⟨by rw [F,R9 _ (by omega)],hb⟩
   ·refine (VZ a b d p q D Q R _ w h hd d1 d2 rfl hp hq hD hc hneg hQ hR hr (by omega) (by omega)).mono ?_
    rintro e w' ⟨rfl,hb⟩
    exact ⟨by rw [F,L3 _ (by omega)],hb⟩
  ·by_cases hf:Q<=9223372036854775808
   ·refine (OV a b d p q D Q R _ w h hd d1 d2 rfl hp hq hD hc hneg hQ hR (Int.not_lt.1 hr) hf (by omega)).mono ?_
    rintro e w' ⟨rfl,hb⟩
    exact ⟨by rw [F,R9 _ (by omega)],hb⟩
   ·refine (TJ a b d p q D Q R _ w h hd d1 d2 rfl hp hq hD hc hneg hQ hR (Int.not_lt.1 hr) (by omega) (by omega)).mono ?_
    rintro e w' ⟨rfl,hb⟩
    exact ⟨by rw [F,L3 _ (by omega)],hb⟩
 ·rw [if_neg hneg] at F
  replace hneg:=Bool.eq_false_iff.2 hneg
  by_cases hr:0<R
  ·rw [if_pos hr] at F
   by_cases ho:18446744073709551615<=Q
   ·refine (PO a b d p q D Q R _ w h hd d1 d2 rfl hp hq hD hc hneg hQ hR hr ho (by omega)).mono ?_
    rintro e w' ⟨rfl,hb⟩
    exact ⟨by rw [F,L3 _ (by omega)],hb⟩
   by_cases hf:Q+1<9223372036854775808
   ·refine (RP a b d p q D Q R _ w h hd d1 d2 rfl hp hq hD hc hneg hQ hR hr hf (by omega)).mono ?_
    rintro e w' ⟨rfl,hb⟩
    exact ⟨by rw [F,R9 _ (by omega)],hb⟩
   ·refine (PH a b d p q D Q R _ w h hd d1 d2 rfl hp hq hD hc hneg hQ hR hr (by omega) (by omega)).mono ?_
    rintro e w' ⟨rfl,hb⟩
    exact ⟨by rw [F,L3 _ (by omega)],hb⟩
  ·rw [if_neg hr] at F
   by_cases hf:Q<9223372036854775808
   ·refine (UM a b d p q D Q R _ w h hd d1 d2 rfl hp hq hD hc hneg hQ hR (Int.not_lt.1 hr) hf (by omega)).mono ?_
    rintro e w' ⟨rfl,hb⟩
    exact ⟨by rw [F,R9 _ (by omega)],hb⟩
   ·refine (PA a b d p q D Q R _ w h hd d1 d2 rfl hp hq hD hc hneg hQ hR (Int.not_lt.1 hr) (by omega) (by omega)).mono ?_
    rintro e w' ⟨rfl,hb⟩
    exact ⟨by rw [F,L3 _ (by omega)],hb⟩
end Go.Proofs.YtdhbeoahpfimbaaGreat
