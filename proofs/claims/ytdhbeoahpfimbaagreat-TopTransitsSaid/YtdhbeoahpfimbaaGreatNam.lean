/- Names: whether a string is one, by the program and by its reference. -/
import Derived.Test.YtdhbeoahpfimbaaGreatBase
import Derived.Test.YtdhbeoahpfimbaaGreatInv
namespace Go.Proofs.YtdhbeoahpfimbaaGreat
open Go.RowKit
def letB (c : Int) : Bool := (decide (97 ≤ c) && decide (c ≤ 122)) || (decide (65 ≤ c) && decide (c ≤ 90))
def digB (c : Int) : Bool := decide (48 ≤ c) && decide (c ≤ 57)
def wordB (c : Int) : Bool := letB c || digB c || decide (c = 95)
def byt (s : ByteArray) (k : Nat) : Int := ((s.data.toList.getD k 0).toNat : Int)
def allB (s : ByteArray) : Bool := decide (0 < s.size) && (List.range s.size).all fun i => wordB (byt s i)
def nameB (s : ByteArray) : Bool := decide (s.size ≤ 20) && allB s && letB (byt s 0)
theorem byt_low (s : ByteArray) (k : Nat) : 0 ≤ byt s k := by unfold byt; omega
theorem byt_high (s : ByteArray) (k : Nat) : byt s k ≤ 255 := by
  have := (s.data.toList.getD k 0).toNat_lt
  unfold byt
  omega
theorem index_byt (s : ByteArray) (k : Nat) (h : k < s.size) (w : World) : (Instr.index 9 (.string s) (.int .i64 k)).run Tryz.prog w = .ok (.int .u8 (byt s k)) w := by
  obtain ⟨⟨l⟩⟩ := s
  have hl : k < l.length := h
  have e : (ByteArray.mk ⟨l⟩)[k]'h = l.getD k 0 := by
    simp only [List.getD, List.getElem?_eq_getElem hl, Option.getD_some]
    rfl
  have hi : (0 : Int) ≤ (k : Int) ∧ (k : Int) < ((ByteArray.mk ⟨l⟩).size : Int) := ⟨by omega, by have : (ByteArray.mk ⟨l⟩).size = l.length := rfl; omega⟩
  rw [run_index_string _ _ _ _ _ Tryz.underlying9, dif_pos hi]
  simp only [byt, Int.toNat_natCast]
  rw [e]
theorem index_byt0 (s : ByteArray) (h : 0 < s.size) (w : World) : (Instr.index 9 (.string s) (.int .i64 0)).run Tryz.prog w = .ok (.int .u8 (byt s 0)) w := index_byt s 0 h w
theorem empty_of (s : ByteArray) : s.toList.isEmpty = !decide (0 < s.size) := by
  obtain ⟨⟨l⟩⟩ := s
  have e : (ByteArray.mk ⟨l⟩).size = l.length := rfl
  cases l with
  | nil =>
    have : (ByteArray.mk ⟨[]⟩).toList = [] := (toList_nil_iff_emptyBytes _).2 rfl
    rw [this]
    rfl
  | cons x l =>
    rw [e]
    simp
set_option maxHeartbeats 1000000 in
theorem dletter_any (c : Int) (w : World) (h0 : 0 ≤ c) (h1 : c ≤ 255) :
    Calls Tryz.prog 238 #[.int .u8 c] w fun e w' => e = .returned (.bool (letB c)) ∧ w = w' := by
  by_cases a : 97 ≤ c <;> by_cases b : c ≤ 122 <;> by_cases d : 65 ≤ c <;> by_cases f : c ≤ 90 <;>
    (have e : Hid (letB c = letB c) := rfl
     first
     | omega
     | (go_enter Tryz.func238, Tryz.ntmps238
        go_wp2
        go_ret
        exact ⟨by simp [letB, *], rfl⟩))
set_option maxHeartbeats 1000000 in
theorem ddigit_any (c : Int) (w : World) (h0 : 0 ≤ c) (h1 : c ≤ 255) :
    Calls Tryz.prog 279 #[.int .u8 c] w fun e w' => e = .returned (.bool (digB c)) ∧ w = w' := by
  by_cases a : 48 ≤ c <;> by_cases b : c ≤ 57 <;>
    first
     | omega
     | (go_enter Tryz.func279, Tryz.ntmps279
        go_wp2
        go_ret
        exact ⟨by simp [digB, *], rfl⟩)
set_option maxHeartbeats 1000000 in
theorem rletter_any (c : Int) (w : World) (h0 : 0 ≤ c) (h1 : c ≤ 255) :
    Calls Tryz.prog 167 #[.int .u8 c] w fun e w' => e = .returned (.bool (letB c)) ∧ w = w' := by
  by_cases a : 97 ≤ c <;> by_cases b : c ≤ 122 <;> by_cases d : 65 ≤ c <;> by_cases f : c ≤ 90 <;>
    (have e : Hid (letB c = letB c) := rfl
     first
     | omega
     | (go_enter Tryz.func167, Tryz.ntmps167
        go_wp2
        go_ret
        exact ⟨by simp [letB, *], rfl⟩))
set_option maxHeartbeats 1000000 in
theorem rdigit_any (c : Int) (w : World) (h0 : 0 ≤ c) (h1 : c ≤ 255) :
    Calls Tryz.prog 168 #[.int .u8 c] w fun e w' => e = .returned (.bool (digB c)) ∧ w = w' := by
  by_cases a : 48 ≤ c <;> by_cases b : c ≤ 57 <;>
    first
     | omega
     | (go_enter Tryz.func168, Tryz.ntmps168
        go_wp2
        go_ret
        exact ⟨by simp [digB, *], rfl⟩)
set_option maxHeartbeats 1000000 in
theorem dword_any (c : Int) (w : World) (h0 : 0 ≤ c) (h1 : c ≤ 255) :
    Calls Tryz.prog 237 #[.int .u8 c] w fun e w' => e = .returned (.bool (wordB c)) ∧ w = w' := by
  have L := fun w => dletter_any c w h0 h1
  have D := fun w => ddigit_any c w h0 h1
  by_cases h9 : c = 95
  · subst h9
    replace L := hidden L
    replace D := hidden D
    have hl : letB 95 = false := rfl
    have hd : digB 95 = false := rfl
    rw [hl] at L
    rw [hd] at D
    clear hl hd
    go_enter Tryz.func237, Tryz.ntmps237
    go_wp2_with (first | (go_at_call 238; ((with_reducible refine (L.out _).mono ?_); rintro e w' ⟨rfl, rfl⟩)) | (go_at_call 279; ((with_reducible refine (D.out _).mono ?_); rintro e w' ⟨rfl, rfl⟩)))
    go_ret
    exact ⟨rfl, rfl⟩
  cases hl : letB c <;> cases hd : digB c <;>
  · rw [hl] at L
    rw [hd] at D
    replace L := hidden L
    replace D := hidden D
    have R : Hid (wordB c = (letB c || digB c || decide (c = 95))) := rfl
    have hl2 := hidden hl
    have hd2 := hidden hd
    clear hl hd
    go_enter Tryz.func237, Tryz.ntmps237
    go_wp2_with (first | (go_at_call 238; ((with_reducible refine (L.out _).mono ?_); rintro e w' ⟨rfl, rfl⟩)) | (go_at_call 279; ((with_reducible refine (D.out _).mono ?_); rintro e w' ⟨rfl, rfl⟩)))
    go_ret
    exact ⟨by rw [R.out, hl2.out, hd2.out]; simp [h9], rfl⟩
theorem allB_true (s : ByteArray) (h : 0 < s.size) (g : ∀ i, i < s.size → wordB (byt s i) = true) : allB s = true := by
  simp only [allB, Bool.and_eq_true, decide_eq_true_eq, List.all_eq_true, List.mem_range]
  exact ⟨h, g⟩
theorem allB_false (s : ByteArray) (k : Nat) (hk : k < s.size) (g : wordB (byt s k) = false) : allB s = false := by
  cases h : allB s with
  | false => rfl
  | true =>
    simp only [allB, Bool.and_eq_true, decide_eq_true_eq, List.all_eq_true, List.mem_range] at h
    rw [h.2 k hk] at g
    cases g
theorem allB_empty (s : ByteArray) (h : s.size = 0) : allB s = false := by simp [allB, h]
set_option maxHeartbeats 1000000 in
theorem dall_any (s : ByteArray) (w : World) (hs : s.size ≤ 20) :
    Calls Tryz.prog 236 #[.string s, .func (.func 237) #[] #[]] w fun e w' => e = .returned (.bool (allB s)) ∧ Below w.heap.size w w' := by
  go_enter Tryz.func236, Tryz.ntmps236
  go_wp2
  go_loopw [8] (fun iv wr => ∃ k : Nat, iv = .int .i64 k ∧ k ≤ s.size ∧ Hid (∀ i, i < k → wordB (byt s i) = true) ∧ Below w.heap.size w wr) (fun iv _ => 40 - (intOf iv).toNat)
  case atStart => exact ⟨0, rfl, Nat.zero_le _, (fun i h => absurd h (by omega)), Below.refl _ _⟩
  case round =>
    obtain ⟨k, rfl, hk, hg, hb0⟩ := hrel
    have hz0 := hb0.size
    by_cases hkn : k < s.size
    · have q1 : decide (k < s.size) = true := by simp; omega
      have IX := index_byt s k hkn
      have c0 := byt_low s k
      have c1 := byt_high s k
      have V := fun w => dword_any (byt s k) w c0 c1
      obtain ⟨c, hc⟩ : ∃ c, byt s k = c := ⟨_, rfl⟩
      rw [hc] at IX V
      have hc2 := hidden hc
      clear hc c0 c1
      cases gk : wordB c with
      | true =>
        rw [gk] at V
        replace V := hidden V
        have gk2 := hidden gk
        clear gk
        go_wp2_with (go_at_call 237; ((with_reducible refine (V.out _).mono ?_); rintro e w' ⟨rfl, rfl⟩))
        exact ⟨⟨k + 1, by go_num, by omega, (fun i h => by rcases Nat.lt_or_ge i k with h4 | h4; exact hg.out i h4; obtain rfl : i = k := (by omega); rw [hc2.out]; exact gk2.out), by (repeat (first | (with_reducible exact Below.refl _ _) | (with_reducible refine Below.setCell ?_ (by (first | (simp; done) | (simp; omega) | omega)) _) | (with_reducible refine bl_alloc ?_ _) | (with_reducible refine bl_drewN ?_) | (with_reducible refine bl_drew ?_) | (with_reducible refine bl_step (by assumption) ?_)))⟩, by simp [intOf]; omega⟩
      | false =>
        rw [gk] at V
        replace V := hidden V
        have gk2 := hidden gk
        clear gk
        go_wp2_with (go_at_call 237; ((with_reducible refine (V.out _).mono ?_); rintro e w' ⟨rfl, rfl⟩))
        go_ret
        exact ⟨by rw [allB_false s k hkn (by rw [hc2.out]; exact gk2.out)]; rfl, by (repeat (first | (with_reducible exact Below.refl _ _) | (with_reducible refine Below.setCell ?_ (by (first | (simp; done) | (simp; omega) | omega)) _) | (with_reducible refine bl_alloc ?_ _) | (with_reducible refine bl_drewN ?_) | (with_reducible refine bl_drew ?_) | (with_reducible refine bl_step (by assumption) ?_)))⟩
    · have q1 : decide (k < s.size) = false := by simp; omega
      have e : s.size = k := by omega
      by_cases h0 : 0 < s.size
      · have A := hidden (allB_true s h0 (fun i h => hg.out i (by omega)))
        have E : s.toList.isEmpty = false := by rw [empty_of, decide_eq_true h0]; rfl
        go_wp2
        go_ret
        exact ⟨by rw [A.out]; rfl, by (repeat (first | (with_reducible exact Below.refl _ _) | (with_reducible refine Below.setCell ?_ (by (first | (simp; done) | (simp; omega) | omega)) _) | (with_reducible refine bl_alloc ?_ _) | (with_reducible refine bl_drewN ?_) | (with_reducible refine bl_drew ?_) | (with_reducible refine bl_step (by assumption) ?_)))⟩
      · have A := hidden (allB_empty s (by omega))
        have E : s.toList.isEmpty = true := by rw [empty_of, decide_eq_false h0]; rfl
        go_wp2
        go_ret
        exact ⟨by rw [A.out]; rfl, by (repeat (first | (with_reducible exact Below.refl _ _) | (with_reducible refine Below.setCell ?_ (by (first | (simp; done) | (simp; omega) | omega)) _) | (with_reducible refine bl_alloc ?_ _) | (with_reducible refine bl_drewN ?_) | (with_reducible refine bl_drew ?_) | (with_reducible refine bl_step (by assumption) ?_)))⟩
set_option maxHeartbeats 1000000 in
theorem dname_any (s : ByteArray) (w : World) :
    Calls Tryz.prog 171 #[.string s] w fun e w' => e = .returned (.bool (nameB s)) ∧ Below w.heap.size w w' := by
  by_cases hs : s.size ≤ 20
  · have A := fun w => dall_any s w hs
    cases ha : allB s with
    | false =>
      rw [ha] at A
      replace A := hidden A
      have R : Hid (nameB s = false) := by unfold Hid nameB; rw [ha]; simp
      clear ha
      go_enter Tryz.func171, Tryz.ntmps171
      go_wp2_with (go_at_call 236; ((with_reducible refine (A.out _).mono ?_); rintro e w' ⟨rfl, hb⟩))
      go_ret
      exact ⟨by rw [R.out]; rfl, by (repeat (first | (with_reducible exact Below.refl _ _) | (with_reducible refine Below.setCell ?_ (by (first | (simp; done) | (simp; omega) | omega)) _) | (with_reducible refine bl_alloc ?_ _) | (with_reducible refine bl_drewN ?_) | (with_reducible refine bl_drew ?_) | (with_reducible refine bl_step (by assumption) ?_)))⟩
    | true =>
      have h0 : 0 < s.size := by
        simp only [allB, Bool.and_eq_true, decide_eq_true_eq] at ha
        exact ha.1
      rw [ha] at A
      replace A := hidden A
      have IX := index_byt0 s h0
      have c0 := byt_low s 0
      have c1 := byt_high s 0
      have L := fun w => dletter_any (byt s 0) w c0 c1
      have R : Hid (nameB s = letB (byt s 0)) := by unfold Hid nameB; rw [ha, decide_eq_true hs]; simp
      clear ha
      obtain ⟨c, hc⟩ : ∃ c, byt s 0 = c := ⟨_, rfl⟩
      rw [hc] at IX L R
      clear hc c0 c1
      obtain ⟨r, hr⟩ : ∃ r, letB c = r := ⟨_, rfl⟩
      rw [hr] at L R
      clear hr
      replace L := hidden L
      go_enter Tryz.func171, Tryz.ntmps171
      go_wp2_with (first | (go_at_call 236; ((with_reducible refine (A.out _).mono ?_); rintro e w' ⟨rfl, hb⟩)) | (go_at_call 238; ((with_reducible refine (L.out _).mono ?_); rintro e w' ⟨rfl, rfl⟩)))
      go_ret
      exact ⟨by rw [R.out]; rfl, by (repeat (first | (with_reducible exact Below.refl _ _) | (with_reducible refine Below.setCell ?_ (by (first | (simp; done) | (simp; omega) | omega)) _) | (with_reducible refine bl_alloc ?_ _) | (with_reducible refine bl_drewN ?_) | (with_reducible refine bl_drew ?_) | (with_reducible refine bl_step (by assumption) ?_)))⟩
  · have R : Hid (nameB s = false) := by unfold Hid nameB; rw [decide_eq_false hs]; simp
    go_enter Tryz.func171, Tryz.ntmps171
    go_wp2
    go_ret
    exact ⟨by rw [R.out]; rfl, by (repeat (first | (with_reducible exact Below.refl _ _) | (with_reducible refine Below.setCell ?_ (by (first | (simp; done) | (simp; omega) | omega)) _) | (with_reducible refine bl_alloc ?_ _) | (with_reducible refine bl_drewN ?_) | (with_reducible refine bl_drew ?_) | (with_reducible refine bl_step (by assumption) ?_)))⟩
theorem name_of (s : ByteArray) (h0 : 0 < s.size) (h1 : s.size ≤ 20) (h2 : letB (byt s 0) = true) (g : ∀ i, i < s.size → wordB (byt s i) = true) : nameB s = true := by
  unfold nameB
  rw [allB_true s h0 g, h2, decide_eq_true h1]
  rfl
set_option maxHeartbeats 2000000 in
theorem rname_any (s : ByteArray) (w : World) :
    Calls Tryz.prog 88 #[.string s] w fun e w' => e = .returned (.bool (nameB s)) ∧ Below w.heap.size w w' := by
  by_cases h0 : 0 < s.size
  · have qz : ((s.size : Int) == 0) = false := by simp only [beq_eq_false_iff_ne, ne_eq]; omega
    by_cases hs : s.size ≤ 20
    · have q20 : decide ((20 : Int) < s.size) = false := by simp only [decide_eq_false_iff_not]; omega
      have IX := index_byt0 s h0
      have c0 := byt_low s 0
      have c1 := byt_high s 0
      have L := fun w => rletter_any (byt s 0) w c0 c1
      obtain ⟨c, hc⟩ : ∃ c, byt s 0 = c := ⟨_, rfl⟩
      rw [hc] at IX L
      cases hl : letB c with
      | false =>
        have R : Hid (nameB s = false) := by unfold Hid nameB; rw [hc, hl]; simp
        rw [hl] at L
        clear hc hl c0 c1
        replace L := hidden L
        go_enter Tryz.func88, Tryz.ntmps88
        go_wp2_with (go_at_call 167; ((with_reducible refine (L.out _).mono ?_); rintro e w' ⟨rfl, rfl⟩))
        go_ret
        exact ⟨by rw [R.out]; rfl, by (repeat (first | (with_reducible exact Below.refl _ _) | (with_reducible refine Below.setCell ?_ (by (first | (simp; done) | (simp; omega) | omega)) _) | (with_reducible refine bl_alloc ?_ _) | (with_reducible refine bl_drewN ?_) | (with_reducible refine bl_drew ?_) | (with_reducible refine bl_step (by assumption) ?_)))⟩
      | true =>
        have hl2 := hidden (show letB (byt s 0) = true by rw [hc]; exact hl)
        rw [hl] at L
        clear hc hl c0 c1
        replace L := hidden L
        go_enter Tryz.func88, Tryz.ntmps88
        go_wp2_with (go_at_call 167; ((with_reducible refine (L.out _).mono ?_); rintro e w' ⟨rfl, rfl⟩))
        clear IX
        go_loopw [3] (fun iv wr => ∃ k : Nat, iv = .int .i64 k ∧ k ≤ s.size ∧ Hid (∀ i, i < k → wordB (byt s i) = true) ∧ Below w.heap.size w wr) (fun iv _ => 40 - (intOf iv).toNat)
        case atStart => exact ⟨0, rfl, Nat.zero_le _, (fun i h => absurd h (by omega)), by (repeat (first | (with_reducible exact Below.refl _ _) | (with_reducible refine Below.setCell ?_ (by (first | (simp; done) | (simp; omega) | omega)) _) | (with_reducible refine bl_alloc ?_ _) | (with_reducible refine bl_drewN ?_) | (with_reducible refine bl_drew ?_) | (with_reducible refine bl_step (by assumption) ?_)))⟩
        case round =>
          obtain ⟨k, rfl, hk, hg, hb0⟩ := hrel
          have hz0 := hb0.size
          by_cases hkn : k < s.size
          · have q1 : decide (k < s.size) = true := by simp; omega
            have IX := index_byt s k hkn
            have c0 := byt_low s k
            have c1 := byt_high s k
            have L := fun w => rletter_any (byt s k) w c0 c1
            have D := fun w => rdigit_any (byt s k) w c0 c1
            obtain ⟨c, hc⟩ : ∃ c, byt s k = c := ⟨_, rfl⟩
            rw [hc] at IX L D
            have hc2 := hidden hc
            clear hc c0 c1
            have step : ∀ c', byt s k = c' → wordB c' = true → Hid (∀ i, i < k + 1 → wordB (byt s i) = true) := fun c' e1 e2 i h => by
              rcases Nat.lt_or_ge i k with h4 | h4
              · exact hg.out i h4
              · obtain rfl : i = k := (by omega)
                rw [e1]
                exact e2
            by_cases h9 : c = 95
            · subst h9
              have hl : letB 95 = false := rfl
              have hd : digB 95 = false := rfl
              rw [hl] at L
              rw [hd] at D
              clear hl hd
              replace L := hidden L
              replace D := hidden D
              have S := hidden (step 95 hc2.out rfl)
              clear step
              go_wp2_with (first | (go_at_call 167; ((with_reducible refine (L.out _).mono ?_); rintro e w' ⟨rfl, rfl⟩)) | (go_at_call 168; ((with_reducible refine (D.out _).mono ?_); rintro e w' ⟨rfl, rfl⟩)))
              exact ⟨⟨k + 1, by go_num, by omega, S.out, by (repeat (first | (with_reducible exact Below.refl _ _) | (with_reducible refine Below.setCell ?_ (by (first | (simp; done) | (simp; omega) | omega)) _) | (with_reducible refine bl_alloc ?_ _) | (with_reducible refine bl_drewN ?_) | (with_reducible refine bl_drew ?_) | (with_reducible refine bl_step (by assumption) ?_)))⟩, by simp [intOf]; omega⟩
            · cases hl : letB c with
              | true =>
                have S := hidden (step c hc2.out (by simp [wordB, hl]))
                rw [hl] at L
                clear hl step
                replace L := hidden L
                replace D := hidden D
                go_wp2_with (first | (go_at_call 167; ((with_reducible refine (L.out _).mono ?_); rintro e w' ⟨rfl, rfl⟩)))
                exact ⟨⟨k + 1, by go_num, by omega, S.out, by (repeat (first | (with_reducible exact Below.refl _ _) | (with_reducible refine Below.setCell ?_ (by (first | (simp; done) | (simp; omega) | omega)) _) | (with_reducible refine bl_alloc ?_ _) | (with_reducible refine bl_drewN ?_) | (with_reducible refine bl_drew ?_) | (with_reducible refine bl_step (by assumption) ?_)))⟩, by simp [intOf]; omega⟩
              | false =>
                cases hd : digB c with
                | true =>
                  have S := hidden (step c hc2.out (by simp [wordB, hd]))
                  rw [hl] at L
                  rw [hd] at D
                  clear hl hd step
                  replace L := hidden L
                  replace D := hidden D
                  go_wp2_with (first | (go_at_call 167; ((with_reducible refine (L.out _).mono ?_); rintro e w' ⟨rfl, rfl⟩)) | (go_at_call 168; ((with_reducible refine (D.out _).mono ?_); rintro e w' ⟨rfl, rfl⟩)))
                  exact ⟨⟨k + 1, by go_num, by omega, S.out, by (repeat (first | (with_reducible exact Below.refl _ _) | (with_reducible refine Below.setCell ?_ (by (first | (simp; done) | (simp; omega) | omega)) _) | (with_reducible refine bl_alloc ?_ _) | (with_reducible refine bl_drewN ?_) | (with_reducible refine bl_drew ?_) | (with_reducible refine bl_step (by assumption) ?_)))⟩, by simp [intOf]; omega⟩
                | false =>
                  have R : Hid (nameB s = false) := by
                    unfold Hid nameB
                    rw [allB_false s k hkn (by rw [hc2.out]; simp [wordB, hl, hd, h9])]
                    simp
                  rw [hl] at L
                  rw [hd] at D
                  clear hl hd step
                  replace L := hidden L
                  replace D := hidden D
                  go_wp2_with (first | (go_at_call 167; ((with_reducible refine (L.out _).mono ?_); rintro e w' ⟨rfl, rfl⟩)) | (go_at_call 168; ((with_reducible refine (D.out _).mono ?_); rintro e w' ⟨rfl, rfl⟩)))
                  go_ret
                  exact ⟨by rw [R.out]; rfl, by (repeat (first | (with_reducible exact Below.refl _ _) | (with_reducible refine Below.setCell ?_ (by (first | (simp; done) | (simp; omega) | omega)) _) | (with_reducible refine bl_alloc ?_ _) | (with_reducible refine bl_drewN ?_) | (with_reducible refine bl_drew ?_) | (with_reducible refine bl_step (by assumption) ?_)))⟩
          · have q1 : decide (k < s.size) = false := by simp; omega
            have R := hidden (name_of s h0 hs hl2.out (fun i h => hg.out i (by omega)))
            go_wp2
            go_ret
            exact ⟨by rw [R.out]; rfl, by (repeat (first | (with_reducible exact Below.refl _ _) | (with_reducible refine Below.setCell ?_ (by (first | (simp; done) | (simp; omega) | omega)) _) | (with_reducible refine bl_alloc ?_ _) | (with_reducible refine bl_drewN ?_) | (with_reducible refine bl_drew ?_) | (with_reducible refine bl_step (by assumption) ?_)))⟩
    · have q20 : decide ((20 : Int) < s.size) = true := by simp only [decide_eq_true_eq]; omega
      have R : Hid (nameB s = false) := by unfold Hid nameB; rw [decide_eq_false hs]; simp
      go_enter Tryz.func88, Tryz.ntmps88
      go_wp2
      go_ret
      exact ⟨by rw [R.out]; rfl, by (repeat (first | (with_reducible exact Below.refl _ _) | (with_reducible refine Below.setCell ?_ (by (first | (simp; done) | (simp; omega) | omega)) _) | (with_reducible refine bl_alloc ?_ _) | (with_reducible refine bl_drewN ?_) | (with_reducible refine bl_drew ?_) | (with_reducible refine bl_step (by assumption) ?_)))⟩
  · have qz : ((s.size : Int) == 0) = true := by simp only [beq_iff_eq]; omega
    have R : Hid (nameB s = false) := by unfold Hid nameB allB; rw [decide_eq_false h0]; simp
    go_enter Tryz.func88, Tryz.ntmps88
    go_wp2
    go_ret
    exact ⟨by rw [R.out]; rfl, by (repeat (first | (with_reducible exact Below.refl _ _) | (with_reducible refine Below.setCell ?_ (by (first | (simp; done) | (simp; omega) | omega)) _) | (with_reducible refine bl_alloc ?_ _) | (with_reducible refine bl_drewN ?_) | (with_reducible refine bl_drew ?_) | (with_reducible refine bl_step (by assumption) ?_)))⟩
end Go.Proofs.YtdhbeoahpfimbaaGreat
