/- The statement on transits, for every input. -/
import Derived.Test.YtdhbeoahpfimbaaGreatTrm
namespace Go.Proofs.YtdhbeoahpfimbaaGreat
open Go.RowKit
theorem fst_neg (g : Nat → Bool) (n : Nat) (h : fstI g n < 0) (i : Nat) (hi : i < n) : g i = false := by
  cases e : g i with
  | false => rfl
  | true =>
    obtain ⟨k, hk, hg, hf⟩ := first_of g n ⟨i, hi, e⟩
    have := fst_hit g n k hk hg hf
    omega
/-- The sidereal time at a transit is the opposite of the sidereal hour angle, as the reference writes it. -/
theorem sh_gha {s l a b : Int} (h : ShT s l a b) (hw : b - a ≤ 10800000) (h0 : a ≤ b) :
    agreeB (arcLo (locLo a b l) (locHi a b l)) (arcHi (locLo a b l) (locHi a b l)) (0 - arcHi (100 * s - 50) (100 * s + 50)) (0 - arcLo (100 * s - 50) (100 * s + 50)) = true := by
  have q := span_short hw h0
  unfold locLo locHi
  obtain ⟨k, h1, h2⟩ := arc_form (show upA b - lowA a < 21600000 by omega)
  rw [h1, h2]
  obtain ⟨j, h3, h4⟩ := arc_form (show upA b - 21600000 * k + l - (lowA a - 21600000 * k + l) < 21600000 by omega)
  obtain ⟨i, h5, h6⟩ := arc_form (show 100 * s + 50 - (100 * s - 50) < 21600000 by omega)
  rw [h3, h4, h5, h6, agree_shr (by omega) (by omega)]
  exact Shr.move (k + j + i) h (by omega) (by omega)
theorem transits_all (a : Option Addr) (n c : Nat) (k8 l fr : Int) (w : World) (h : n = 0 ∨ ∃ (B oo : Nat) (nm : Nat → ByteArray) (f : Nat → Nat → Int), a = some ⟨B, oo, none⟩ ∧ StS w B oo n nm f) (bk : 0 ≤ k8 ∧ k8 ≤ 255)
    (_bl : -9223372036854775808 ≤ l ∧ l ≤ 9223372036854775807) (_bf : -9223372036854775808 ≤ fr ∧ fr ≤ 9223372036854775807) :
    Calls Tryz.prog 5 #[.slice a n c, .int .u8 k8, .int .i64 l, .int .i64 fr] w fun e w' => e = .returned (.bool true) ∧ Below w.heap.size w w' := by
  have W := hidden wayawake_is
  rcases Nat.eq_zero_or_pos n with hn | hn
  · subst hn; exact tout_none a c k8 l fr w W
  by_cases h10 : 10 < n
  · exact tout_many a n c k8 l fr w W h10
  rcases h with h | ⟨B, oo, nm, f, rfl, hl⟩
  · omega
  have V := hidden fun wq (hb : Below w.heap.size w wq) => rvalid_any B oo n c nm f wq (hl.later hb) (by omega)
  by_cases hv : stB nm f n = false ∨ l < -10800000 ∨ 10800000 ≤ l ∨ fr < -70368744177664 ∨ 70368528177664 < fr
  · exact tout_bad _ n c k8 l fr _ w W hn (by omega) V hv
  have hs : stB nm f n = true := by
    cases e : stB nm f n with
    | true => rfl
    | false => exact absurd (.inl e) hv
  have l0 : -10800000 ≤ l := by omega
  have l1 : l < 10800000 := by omega
  have f0 : -70368744177664 ≤ fr := by omega
  have f1 : fr ≤ 70368528177664 := by omega
  clear hv
  rw [hs] at V
  have N := fun wq (hb : Below w.heap.size w wq) => new_any B oo n c nm f wq (hl.later hb) (by omega) hn hs
  by_cases hR : 0 ≤ fstI (fun j => sameB (nm j) AR) n
  · refine tout_twice _ n c k8 l fr w W hn (by omega) l0 l1 f0 f1 V (hidden fun wq hb => (N wq hb).mono ?_)
    rintro e w' ⟨h1, h2⟩
    rcases h2 with ⟨_, h3⟩ | ⟨h3, _⟩
    · exact ⟨h3, h1⟩
    · omega
  have NW := hidden fun wq (hb : Below w.heap.size w wq) => (N wq hb).mono (R' := fun e w' => Below wq.heap.size wq w' ∧ ∃ b, e = .returned (.tuple #[.pointer (some ⟨b, 0, none⟩), .int .i64 0]) ∧ BkS w' b n nm f) (by
    rintro e w' ⟨h1, h2⟩
    rcases h2 with ⟨h3, _⟩ | ⟨_, h3⟩
    · omega
    · exact ⟨h1, h3⟩)
  obtain ⟨K, rfl⟩ : ∃ K : Nat, k8 = K := ⟨k8.toNat, by omega⟩
  obtain ⟨i, hi⟩ : ∃ i, K % n = i := ⟨_, rfl⟩
  have i0 : i < n := by rw [← hi]; exact Nat.mod_lt _ hn
  have hA : nm i ≠ AR := by
    intro e
    have := fst_neg (fun j => sameB (nm j) AR) n (by omega) i i0
    simp only [e, same_self] at this
    cases this
  obtain ⟨hf, s0, s1, d0, d1⟩ : fstI (fun j => sameB (nm j) (nm i)) n = i ∧ 0 ≤ f i 0 ∧ f i 0 ≤ 215999 ∧ -54000 ≤ f i 1 ∧ f i 1 ≤ 54000 := by
    have e : okS nm f i = true := by
      cases e : okS nm f i with
      | true => rfl
      | false => rw [stB_false i i0 e] at hs; cases hs
    obtain ⟨_, e2, e3⟩ := (okS_tests i0).2 e
    simp only [numB, Bool.and_eq_true, decide_eq_true_eq] at e2
    exact ⟨e3, by omega, by omega, by omega, by omega⟩
  obtain ⟨lo, hi2, t0, t1, t2, t3, hSh, hT⟩ := transit_ok (f i 0) l fr s0 s1 l0 (by omega) f0 f1
  have ht : timeB lo hi2 = true := by simp [timeB, instB]; omega
  have q := span_short (by omega) t1
  have hlon := sh_longitude hSh (by omega) t1
  have hgh := gh_bd (s := f i 0) q.1
  have sb : -10800000 ≤ sgn (-ghHi (f i 0) lo hi2) ∧ sgn (-ghHi (f i 0) lo hi2) < 10800000 := by unfold sgn; split <;> omega
  have hl2 := sh_later hSh
  have q2 := span_day (a := lo + 86164090) (b := hi2 + 86164091) (by omega) (by omega)
  have lb2 := lh_bd (s := f i 0) (l := l) q2.1
  have adir := arc_dir _ _ q.1
  have ldir := arc_dir (locLo lo hi2 l) (locHi lo hi2 l) (by unfold locLo locHi; omega)
  have sdir := arc_dir (100 * f i 0 - 50) (100 * f i 0 + 50) (by omega)
  refine tra_main B oo n c i nm f (nm i) (f i 0) (f i 1) (f i 2) lo hi2 l fr (arcLo (locLo lo hi2 l) (locHi lo hi2 l)) (arcHi (locLo lo hi2 l) (locHi lo hi2 l)) (arcLo (100 * f i 0 - 50) (100 * f i 0 + 50)) (arcHi (100 * f i 0 - 50) (100 * f i 0 + 50))
    (0 - arcHi (100 * f i 0 - 50) (100 * f i 0 + 50)) (0 - arcLo (100 * f i 0 - 50) (100 * f i 0 + 50)) (lonLo (f i 0) lo hi2) (lonHi (f i 0) lo hi2) (lhLo (f i 0) l (lo + 86164090) (hi2 + 86164091)) (lhHi (f i 0) l (lo + 86164090) (hi2 + 86164091)) K w W hn (by omega) l0 l1 f0 f1 (hidden hl) (by omega) hi rfl rfl rfl rfl V NW
    (hidden fun b wq hB => hT b n i nm f wq hB (by omega) i0 hf hA rfl d0 d1) t0 t1 t2
    (hidden fun wq => local_ok lo hi2 l l wq ht (arcB_mk (by omega)) (by unfold locB locLo locHi; rw [fitsB_mk (by omega), fitsB_mk (by omega)]; rfl))
    (hidden fun wq => ?_) (hidden fun wq => gha13_any (f i 0) wq (by omega) (by omega)) (hidden fun wq => neg5_any _ _ wq (by omega) (by omega) (by omega) (by omega)) (hidden fun wq => ?_)
    (hidden fun b wq hB => longitude_ok b n i nm f lo hi2 wq hB (by omega) i0 hf hA ht (by omega) hlon.2.1 s0 s1 d0 d1)
    (hidden fun wq => ?_)
    (hidden fun b wq hB => lha_ok b n i nm f l (lo + 86164090) (hi2 + 86164091) wq hB (by omega) i0 hf hA (by simp [timeB, instB]; omega) (by omega) s0 s1 d0 d1 l0 (by omega))
    (hidden fun wq => ?_)
  · have := valid5_any (arcLo (locLo lo hi2 l) (locHi lo hi2 l)) (arcHi (locLo lo hi2 l) (locHi lo hi2 l)) wq
    rw [arcB_mk (by omega)] at this
    exact this
  · have := agree_ok (arcLo (locLo lo hi2 l) (locHi lo hi2 l)) (arcHi (locLo lo hi2 l) (locHi lo hi2 l)) (0 - arcHi (100 * f i 0 - 50) (100 * f i 0 + 50)) (0 - arcLo (100 * f i 0 - 50) (100 * f i 0 + 50)) wq (arcB_mk (by omega)) (arcB_mk (by omega))
    rw [sh_gha hSh (by omega) t1] at this
    exact this
  · have := agree_ok (lonLo (f i 0) lo hi2) (lonHi (f i 0) lo hi2) l l wq (arcB_mk (by unfold lonLo lonHi; omega)) (arcB_mk (by omega))
    rw [show agreeB (lonLo (f i 0) lo hi2) (lonHi (f i 0) lo hi2) l l = true from hlon.2.2] at this
    exact this
  · have := agree_ok (lhLo (f i 0) l (lo + 86164090) (hi2 + 86164091)) (lhHi (f i 0) l (lo + 86164090) (hi2 + 86164091)) 0 0 wq (arcB_mk (by omega)) (by decide)
    rw [(lh_agree (by omega) (by omega)).2 hl2] at this
    exact this
end Go.Proofs.YtdhbeoahpfimbaaGreat
