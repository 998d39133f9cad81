/- The plain law of transits: arcs that share a multiple of a turn, moved by the sidereal time. -/
import Derived.Test.YtdhbeoahpfimbaaGreatLocal
import Derived.Test.YtdhbeoahpfimbaaGreatAg
namespace Go.Proofs.YtdhbeoahpfimbaaGreat
open Go.RowKit
/-- The arc of a star's Greenwich hour angle over a time. -/
def ghLo (s a b : Int) : Int := arcLo (arcLo (lowA a) (upA b) + (100 * s - 50)) (arcHi (lowA a) (upA b) + (100 * s + 50))
def ghHi (s a b : Int) : Int := arcHi (arcLo (lowA a) (upA b) + (100 * s - 50)) (arcHi (lowA a) (upA b) + (100 * s + 50))
/-- A range has a multiple of a turn. -/
def Shr (lo hi : Int) : Prop := ∃ m : Int, lo ≤ 21600000 * m ∧ 21600000 * m ≤ hi
theorem agree_shr {a b c d : Int} (h : a ≤ b) (g : c ≤ d) : agreeB a b c d = true ↔ Shr (a - d) (b - c) := by
  simp only [agreeB, Bool.or_eq_true, decide_eq_true_eq, Shr]
  constructor
  · intro h1
    rcases h1 with h1 | h1
    · exact ⟨-((c - a) / 21600000), by omega, by omega⟩
    · exact ⟨(a - c) / 21600000, by omega, by omega⟩
  · rintro ⟨m, h1, h2⟩
    omega
theorem Shr.move {a b c d : Int} (k : Int) (h : Shr a b) (h1 : c = a - 21600000 * k) (h2 : d = b - 21600000 * k) : Shr c d := by
  obtain ⟨m, h3, h4⟩ := h
  exact ⟨m - k, by omega, by omega⟩
theorem Shr.mono {a b c d : Int} (h : Shr a b) (h1 : c ≤ a) (h2 : b ≤ d) : Shr c d := by
  obtain ⟨m, h3, h4⟩ := h
  exact ⟨m, by omega, by omega⟩
theorem arc_form {a b : Int} (h : b - a < 21600000) : ∃ k : Int, arcLo a b = a - 21600000 * k ∧ arcHi a b = b - 21600000 * k := by
  have : ¬ 21600000 ≤ b - a := by omega
  simp only [arcLo, arcHi, this, if_false]
  exact ⟨a / 21600000, by omega, by omega⟩
theorem gh_form {s a b : Int} (h : upA b - lowA a < 21599900) : ∃ k : Int, ghLo s a b = lowA a + 100 * s - 50 - 21600000 * k ∧ ghHi s a b = upA b + 100 * s + 50 - 21600000 * k := by
  unfold ghLo ghHi
  obtain ⟨k, h1, h2⟩ := arc_form (show upA b - lowA a < 21600000 by omega)
  rw [h1, h2]
  obtain ⟨j, h3, h4⟩ := arc_form (show upA b - 21600000 * k + (100 * s + 50) - (lowA a - 21600000 * k + (100 * s - 50)) < 21600000 by omega)
  rw [h3, h4]
  exact ⟨k + j, by omega, by omega⟩
/-- The local hour angle of a star over a time, for one longitude. -/
def lhLo (s l a b : Int) : Int := arcLo (ghLo s a b + l % 21600000) (ghHi s a b + l % 21600000)
def lhHi (s l a b : Int) : Int := arcHi (ghLo s a b + l % 21600000) (ghHi s a b + l % 21600000)
theorem lh_form {s l a b : Int} (h : upA b - lowA a < 21599900) : ∃ k : Int, lhLo s l a b = lowA a + 100 * s - 50 + l - 21600000 * k ∧ lhHi s l a b = upA b + 100 * s + 50 + l - 21600000 * k := by
  unfold lhLo lhHi
  obtain ⟨k, h1, h2⟩ := gh_form (s := s) h
  rw [h1, h2]
  obtain ⟨j, h3, h4⟩ := arc_form (show upA b + 100 * s + 50 - 21600000 * k + l % 21600000 - (lowA a + 100 * s - 50 - 21600000 * k + l % 21600000) < 21600000 by omega)
  rw [h3, h4]
  exact ⟨k + j + l / 21600000, by omega, by omega⟩
/-- A span agrees with a transit. -/
def ShT (s l a b : Int) : Prop := Shr (lowA a + (100 * s - 50 + l)) (upA b + (100 * s + 50 + l))
theorem span_short {a b : Int} (h : b - a ≤ 10800000) (h0 : a ≤ b) : lowA a ≤ upA b ∧ upA b - lowA a < 21599900 := by
  unfold lowA upA NN; omega
theorem span_day {a b : Int} (h : b - a ≤ 10800001) (h0 : a ≤ b) : lowA a ≤ upA b ∧ upA b - lowA a < 21599900 := by
  unfold lowA upA NN; omega
theorem lh_agree {s l a b : Int} (h : b - a ≤ 10800001) (h0 : a ≤ b) : agreeB (lhLo s l a b) (lhHi s l a b) 0 0 = true ↔ ShT s l a b := by
  have q := span_day h h0
  obtain ⟨k, h1, h2⟩ := lh_form (s := s) (l := l) q.2
  rw [h1, h2, agree_shr (by omega) (by omega)]
  unfold ShT
  exact ⟨fun g => g.move (-k) (by omega) (by omega), fun g => g.move k (by omega) (by omega)⟩
/-- What covers a span has a part that agrees. -/
theorem cover (s l : Int) (p : Nat → Int) (n : Nat) (h : ShT s l (p 0) (p n)) (hn : 0 < n) : ∃ i, i < n ∧ ShT s l (p i) (p (i + 1)) := by
  induction n with
  | zero => omega
  | succ n ih =>
    rcases Nat.eq_zero_or_pos n with h0 | h0
    · subst h0; exact ⟨0, by omega, h⟩
    · obtain ⟨m, h1, h2⟩ := h
      by_cases hc : 21600000 * m ≤ upA (p n) + (100 * s + 50 + l)
      · obtain ⟨i, hi, g⟩ := ih ⟨m, h1, hc⟩ h0
        exact ⟨i, by omega, g⟩
      · exact ⟨n, by omega, m, by have := low_le_up (Int.le_refl (p n)); omega, h2⟩
theorem hours (s l f : Int) : ∃ i : Nat, i < 26 ∧ ShT s l (f + 3600000 * i) (f + 3600000 * i + 3600000) := by
  have h : ShT s l (f + 3600000 * (0 : Nat)) (f + 3600000 * (26 : Nat)) := by
    refine ⟨(lowA f + (100 * s - 50 + l) + 21599999) / 21600000, ?_, ?_⟩
    · simp; omega
    · have : lowA f + 21600000 ≤ upA (f + 3600000 * (26 : Nat)) := by unfold lowA upA NN; omega
      omega
  obtain ⟨i, hi, g⟩ := cover s l (fun i => f + 3600000 * (i : Int)) 26 h (by omega)
  exact ⟨i, hi, by have e : f + 3600000 * (i : Int) + 3600000 = f + 3600000 * ((i + 1 : Nat) : Int) := by omega
                   rw [e]; exact g⟩
theorem parts_of (s l f : Int) (h : ShT s l f (f + 3600000)) : ∃ i : Nat, i < 4096 ∧ ShT s l (f + 3600000 * (i : Int) / 4096) (f + 3600000 * ((i : Int) + 1) / 4096) := by
  obtain ⟨i, hi, g⟩ := cover s l (fun i => f + 3600000 * (i : Int) / 4096) 4096 (by simpa using h) (by omega)
  exact ⟨i, hi, by simpa using g⟩
theorem ShT.wider {s l a b c d : Int} (h : ShT s l a b) (h1 : c ≤ a) (h2 : b ≤ d) : ShT s l c d := by
  unfold ShT at *
  exact h.mono (by have : lowA c ≤ lowA a := (by unfold lowA NN; omega); omega) (by have : upA b ≤ upA d := (by unfold upA NN; omega); omega)
theorem later_low (a : Int) : lowA (a + 86164090) ≤ lowA a + 21600000 := by unfold lowA NN; omega
theorem later_up (a : Int) : upA a + 21600000 ≤ upA (a + 86164091) := by unfold upA NN; omega
theorem sh_later {s l a b : Int} (h : ShT s l a b) : ShT s l (a + 86164090) (b + 86164091) := by
  obtain ⟨m, h1, h2⟩ := h
  have := later_low a
  have := later_up b
  exact ⟨m + 1, by omega, by omega⟩
/-- The longitude is found from the transit. -/
theorem sh_longitude {s l a b : Int} (h : ShT s l a b) (hw : b - a ≤ 10800000) (h0 : a ≤ b) :
    ghLo s a b ≤ ghHi s a b ∧ ghHi s a b - ghLo s a b < 21600000 ∧ agreeB (sgn (-ghHi s a b)) (sgn (-ghHi s a b) + ghHi s a b - ghLo s a b) l l = true := by
  have q := span_short hw h0
  obtain ⟨k, h1, h2⟩ := gh_form (s := s) q.2
  refine ⟨by omega, by omega, ?_⟩
  have : ∃ j, sgn (-ghHi s a b) = -ghHi s a b - 21600000 * j := by
    unfold sgn
    split
    · exact ⟨(-ghHi s a b) / 21600000 + 1, by omega⟩
    · exact ⟨(-ghHi s a b) / 21600000, by omega⟩
  obtain ⟨j, h3⟩ := this
  rw [h3, h1, h2, agree_shr (by omega) (by omega)]
  obtain ⟨m, h4, h5⟩ := h
  exact ⟨-m + k - j, by omega, by omega⟩
end Go.Proofs.YtdhbeoahpfimbaaGreat
