/- Part of the proof of TopDistances. -/
import Derived.Test.YtdhbeoahpfimbaaGreatPi
namespace Go.Proofs.YtdhbeoahpfimbaaGreat
open Go.RowKit
def Y8 (n:Int):Bool:=decide (-1099511627776<=n)&&decide (n<=1099511627776)
def P9 (a b:Int):Bool:=decide (a<=b)&&Y8 a&&Y8 b
theorem bJ {n:Int} (h: -1099511627776<=n/\n<=1099511627776):Y8 n=true:=by simpa [Y8] using h
theorem tY {n:Int} (h:n< -1099511627776\/1099511627776<n):Y8 n=false:=by simp [Y8];omega
theorem nI {a b:Int} (h:P9 a b=true):a<=b/\ -1099511627776<=a/\b<=1099511627776:=by simp [P9,Y8] at h;omega
theorem G8 {a b:Int} (h:a<=b/\ -1099511627776<=a/\b<=1099511627776):P9 a b=true:=by simp [P9,Y8];omega
theorem pH {a b:Int} (h:¬(a<=b/\ -1099511627776<=a/\b<=1099511627776)):P9 a b=false:=by simp [P9,Y8];omega
set_option maxHeartbeats 400000 in
theorem gH (n:Int) (w:World):
  Calls Tryz.prog 127 #[.int .i64 n] w fun e w'=>e= .returned (.bool (Y8 n))/\w=w':=by
 by_cases h1: -1099511627776<=n
 ·by_cases h2:n<=1099511627776
  ·have H:=b6 (bJ ⟨h1,h2⟩)
   go_enter Tryz.func127,Tryz.ntmps127
   go_wp2
   go_ret
   exact ⟨by rw [H.out];rfl,rfl⟩
  ·have H:=b6 (tY (n:=n) (by omega))
   go_enter Tryz.func127,Tryz.ntmps127
   go_wp2
   go_ret
   exact ⟨by rw [H.out];rfl,rfl⟩
 ·have H:=b6 (tY (n:=n) (by omega))
  go_enter Tryz.func127,Tryz.ntmps127
  go_wp2
  go_ret
  exact ⟨by rw [H.out];rfl,rfl⟩
set_option maxHeartbeats 400000 in
theorem G7 (a b:Int) (w:World):
  Calls Tryz.prog 45 #[.agg #[.int .i64 a,.int .i64 b]] w fun e w'=>e= .returned (.bool (P9 a b))/\Below w.heap.size w w':=by
 by_cases h1:a<=b
 ·cases h2:Y8 a
  ·have H:=b6 (show P9 a b=false by simp [P9,h2])
   go_enter Tryz.func45,Tryz.ntmps45
   go_wp2_with (go_at_call 127;refine am (gH _ _) ?_;rintro w' rfl)
   go_ret
   exact ⟨by rw [H.out];rfl,(Below.refl _ _).alloc (Nat.le_refl _) _⟩
  ·cases h3:Y8 b
   ·have H:=b6 (show P9 a b=false by simp [P9,h3])
    go_enter Tryz.func45,Tryz.ntmps45
    go_wp2_with (go_at_call 127;refine am (gH _ _) ?_;rintro w' rfl)
    go_ret
    exact ⟨by rw [H.out];rfl,(Below.refl _ _).alloc (Nat.le_refl _) _⟩
   ·have H:=b6 (show P9 a b=true by simp [P9,h1,h2,h3])
    go_enter Tryz.func45,Tryz.ntmps45
    go_wp2_with (go_at_call 127;refine am (gH _ _) ?_;rintro w' rfl)
    go_ret
    exact ⟨by rw [H.out];rfl,(Below.refl _ _).alloc (Nat.le_refl _) _⟩
 ·have H:=b6 (show P9 a b=false by simp [P9,h1])
  go_enter Tryz.func45,Tryz.ntmps45
  go_wp2_with (go_at_call 127;refine am (gH _ _) ?_;rintro w' rfl)
  go_ret
  exact ⟨by rw [H.out];rfl,(Below.refl _ _).alloc (Nat.le_refl _) _⟩
set_option maxHeartbeats 400000 in
theorem eD (n:Int) (w:World) (_h0: -9223372036854775808<=n) (_h1:n<=9223372036854775807):
  Calls Tryz.prog 56 #[.int .i64 n] w fun e w'=>e= .returned (.int .i64 (n%21600000))/\w=w':=by
 have e:n.tmod 21600000=if 0<=n\/n%21600000=0 then n%21600000 else n%21600000-21600000:=by
  have:=Int.tmod_eq_emod (a:=n) (b:=21600000)
  simp only [Int.natAbs] at this
  rw [this];split<;>split<;>omega
 by_cases hc:0<=n\/n%21600000=0
 ·rw [if_pos hc] at e
  have m0:0<=n%21600000:=by omega
  have m1:n%21600000<21600000:=by omega
  clear hc
  go_enter Tryz.func56,Tryz.ntmps56
  go_wp2
  go_ret
  exact ⟨rfl,rfl⟩
 ·rw [if_neg hc] at e
  have m0:0<n%21600000:=by omega
  have m1:n%21600000<21600000:=by omega
  have H:Hid (n%21600000-21600000+21600000=n%21600000):=by unfold Hid;omega
  have hn:n<0:=by omega
  clear hc
  go_enter Tryz.func56,Tryz.ntmps56
  go_wp2
  go_ret
  exact ⟨by simp,rfl⟩
def aZ (n:Int):Int:=if 10800000<=n%21600000 then n%21600000-21600000 else n%21600000
set_option maxHeartbeats 400000 in
theorem cF (n:Int) (w:World) (_h0: -9223372036854775808<=n) (_h1:n<=9223372036854775807):
  Calls Tryz.prog 21 #[.int .i64 n] w fun e w'=>e= .returned (.int .i64 (aZ n))/\w=w':=by
 have m0:0<=n%21600000:=by omega
 have m1:n%21600000<21600000:=by omega
 by_cases hc:10800000<=n%21600000
 ·have H:Hid (aZ n=n%21600000-21600000):=by simp [aZ,hc,Hid]
  go_enter Tryz.func21,Tryz.ntmps21
  go_wp2_with (go_at_call 56;refine am (eD _ _ (by omega) (by omega)) ?_;rintro w' rfl)
  go_ret
  exact ⟨N3 (by rw [H.out]),rfl⟩
 ·have H:Hid (aZ n=n%21600000):=by simp [aZ,hc,Hid]
  go_enter Tryz.func21,Tryz.ntmps21
  go_wp2_with (go_at_call 56;refine am (eD _ _ (by omega) (by omega)) ?_;rintro w' rfl)
  go_ret
  exact ⟨N3 (by rw [H.out]),rfl⟩
set_option maxHeartbeats 400000 in
theorem tN (a b:Int) (w:World) (h1:Y8 a=true) (h2:Y8 b=true):
  Calls Tryz.prog 123 #[.int .i64 a,.int .i64 b] w fun e w'=>e= .returned (.tuple #[.agg #[.int .i64 a,.int .i64 b],.int .i64 0])/\Below w.heap.size w w':=by
 go_enter Tryz.func123,Tryz.ntmps123
 go_wp2_with (go_at_call 127;refine am (gH _ _) ?_;rintro w' rfl)
 exact bodyPost_ret (v:= .tuple #[.agg #[.int .i64 a,.int .i64 b],.int .i64 0]) (by first|(simp only [results,Tryz.results123];go_simp;done)|simp [results,Tryz.results123,go_sem, *]) rfl ⟨rfl,bv⟩
set_option maxHeartbeats 400000 in
theorem DZ (a b c d:Int) (w:World) (h1:P9 a b=true) (h2:P9 c d=true) (h3:Y8 (a+c)=true) (h4:Y8 (b+d)=true):
  Calls Tryz.prog 42 #[.agg #[.int .i64 a,.int .i64 b],.agg #[.int .i64 c,.int .i64 d]] w fun e w'=>e= .returned (.tuple #[.agg #[.int .i64 (a+c),.int .i64 (b+d)],.int .i64 0])/\Below w.heap.size w w':=by
 have e1:=nI h1
 have e2:=nI h2
 have e3:=e1.1;have e4:=e1.2.1;have e5:=e1.2.2;have e6:=e2.1;have e7:=e2.2.1;have e8:=e2.2.2
 clear e1 e2
 have H3:=b6 h3
 have H4:=b6 h4
 clear h3 h4
 go_enter Tryz.func42,Tryz.ntmps42
 go_wp2_with (first|(go_at_call 45;refine am (G7 _ _ _) ?_;intro w' hb;replace hb:=mU;obtain ⟨hcell,hfroz,hz,_⟩:=mB)|(go_at_call 123;refine am (tN _ _ _ H3.out H4.out) ?_;intro w' hb;replace hb:=mU;obtain ⟨hcell,hfroz,hz,_⟩:=mB))
 exact bodyPost_ret (v:= .tuple #[.agg #[.int .i64 (a+c),.int .i64 (b+d)],.int .i64 0]) (by first|(simp only [results,Tryz.results42];go_simp;done)|simp [results,Tryz.results42,go_sem, *]) rfl ⟨rfl,bv⟩
set_option maxHeartbeats 400000 in
theorem a1V (a b:Int) (w:World) (h1:P9 a b=true):
  Calls Tryz.prog 225 #[.agg #[.int .i64 a,.int .i64 b]] w fun e w'=>e= .returned (.tuple #[.agg #[.int .i64 (-b),.int .i64 (-a)],.int .i64 0])/\Below w.heap.size w w':=by
 have e1:=nI h1;have e3:=e1.1;have e4:=e1.2.1;have e5:=e1.2.2;clear e1
 have H3:=b6 (bJ (n:= -b) (by omega))
 have H4:=b6 (bJ (n:= -a) (by omega))
 go_enter Tryz.func225,Tryz.ntmps225
 go_wp2_with (first|(go_at_call 45;refine am (G7 _ _ _) ?_;intro w' hb;replace hb:=mU;obtain ⟨hcell,hfroz,hz,_⟩:=mB)|(go_at_call 123;refine am (tN _ _ _ H3.out H4.out) ?_;intro w' hb;replace hb:=mU;obtain ⟨hcell,hfroz,hz,_⟩:=mB))
 exact bodyPost_ret (v:= .tuple #[.agg #[.int .i64 (-b),.int .i64 (-a)],.int .i64 0]) (by first|(simp only [results,Tryz.results225];go_simp;done)|simp [results,Tryz.results225,go_sem, *]) rfl ⟨rfl,bv⟩
theorem MF {a b:Int} (h:P9 a b=true):P9 (-b) (-a)=true:=by
 have:=nI h;exact G8 (by omega)
set_option maxHeartbeats 400000 in
theorem a1N (a b c d:Int) (w:World) (h1:P9 a b=true) (h2:P9 c d=true) (h3:Y8 (a-d)=true) (h4:Y8 (b-c)=true):
  Calls Tryz.prog 152 #[.agg #[.int .i64 a,.int .i64 b],.agg #[.int .i64 c,.int .i64 d]] w fun e w'=>e= .returned (.tuple #[.agg #[.int .i64 (a-d),.int .i64 (b-c)],.int .i64 0])/\Below w.heap.size w w':=by
 have H1:=b6 h1
 have H2:=b6 h2
 have H3:=b6 h3
 have H4:=b6 h4
 clear h1 h2 h3 h4
 go_enter Tryz.func152,Tryz.ntmps152
 go_wp2_with (first|(go_at_call 225;refine am (a1V _ _ _ H2.out) ?_;intro w' hb;replace hb:=mU;obtain ⟨hcell,hfroz,hz,_⟩:=mB)|(go_at_call 42;refine (DZ _ _ _ _ _ H1.out (MF H2.out) ?_ ?_).mono ?_;(rw [<-Int.sub_eq_add_neg];exact H3.out);(rw [<-Int.sub_eq_add_neg];exact H4.out);rintro e w' ⟨rfl,hb⟩;rw [<-Int.sub_eq_add_neg,<-Int.sub_eq_add_neg];replace hb:=mU;obtain ⟨hcell,hfroz,hz,_⟩:=mB))
 exact bodyPost_ret (v:= .tuple #[.agg #[.int .i64 (a-d),.int .i64 (b-c)],.int .i64 0]) (by first|(simp only [results,Tryz.results152];go_simp;done)|simp [results,Tryz.results152,go_sem, *]) rfl ⟨rfl,bv⟩
def dR (a b c d:Int):Bool:=decide ((c-a)%21600000<=b-a)||decide ((a-c)%21600000<=d-c)
set_option maxHeartbeats 400000 in
theorem PD (a b c d:Int) (w:World) (h1:P9 a b=true) (h2:P9 c d=true):
  Calls Tryz.prog 14 #[.agg #[.int .i64 a,.int .i64 b],.agg #[.int .i64 c,.int .i64 d]] w fun e w'=>e= .returned (.tuple #[.bool (dR a b c d),.int .i64 0])/\Below w.heap.size w w':=by
 have e1:=nI h1;have e2:=nI h2;have e3:=e1.1;have e4:=e1.2.1;have e5:=e1.2.2;have e6:=e2.1;have e7:=e2.2.1;have e8:=e2.2.2;clear e1 e2
 by_cases g1:(c-a)%21600000<=b-a
 ·have H:Hid (dR a b c d=true):=by simp [dR,g1,Hid]
  have g2:decide ((c-a)%21600000<=b-a)=true:=by simpa using g1
  go_enter Tryz.func14,Tryz.ntmps14
  go_wp2_with (go_at_call 45;refine am (G7 _ _ _) ?_;intro w' hb;replace hb:=mU;obtain ⟨hcell,hfroz,hz,_⟩:=mB)
  go_quiet ((go_at_call 56;exact u6 (eD _ _ (by omega) (by omega))))
  go_wp2
  go_ret2
  exact ⟨mO (by rw [H.out]),bv⟩
 ·by_cases g3:(a-c)%21600000<=d-c
  ·have H:Hid (dR a b c d=true):=by simp [dR,g3,Hid]
   have g2:decide ((c-a)%21600000<=b-a)=false:=by simpa using g1
   go_enter Tryz.func14,Tryz.ntmps14
   go_wp2_with (go_at_call 45;refine am (G7 _ _ _) ?_;intro w' hb;replace hb:=mU;obtain ⟨hcell,hfroz,hz,_⟩:=mB)
   go_quiet ((go_at_call 56;exact u6 (eD _ _ (by omega) (by omega))))
   go_wp2
   go_ret2
   exact ⟨mO (by rw [H.out]),bv⟩
  ·have H:Hid (dR a b c d=false):=by simp [dR,g3,g1,Hid]
   have g2:decide ((c-a)%21600000<=b-a)=false:=by simpa using g1
   go_enter Tryz.func14,Tryz.ntmps14
   go_wp2_with (go_at_call 45;refine am (G7 _ _ _) ?_;intro w' hb;replace hb:=mU;obtain ⟨hcell,hfroz,hz,_⟩:=mB)
   go_quiet ((go_at_call 56;exact u6 (eD _ _ (by omega) (by omega))))
   go_wp2
   go_ret2
   exact ⟨mO (by rw [H.out,decide_eq_false_iff_not];omega),bv⟩
end Go.Proofs.YtdhbeoahpfimbaaGreat
