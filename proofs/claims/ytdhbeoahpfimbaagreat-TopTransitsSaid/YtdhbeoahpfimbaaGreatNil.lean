/- The book's functions on no pages: what they do where there is nothing. -/
import Derived.Test.YtdhbeoahpfimbaaGreatCat
import Derived.Test.YtdhbeoahpfimbaaGreatShelf
import Derived.Test.YtdhbeoahpfimbaaGreatShf
namespace Go.Proofs.YtdhbeoahpfimbaaGreat
open Go.RowKit
theorem nilidx_any (fn : Value) (w : World) :
    Calls Tryz.prog 169 #[.slice none 0 0, fn] w fun e w' => e = .returned (.int .i64 (-1)) ∧ w = w' := by
  go_enter Tryz.func169, Tryz.ntmps169
  go_wp2
  refine wp_loop_rounds 1 ?_
  rw [rounds_succ]
  go_wp2
  go_ret
  exact ⟨rfl, rfl⟩
theorem nilhas_any (fn : Value) (w : World) :
    Calls Tryz.prog 91 #[.slice none 0 0, fn] w fun e w' => e = .returned (.bool false) ∧ w = w' := by
  go_enter Tryz.func91, Tryz.ntmps91
  go_wp2_with (go_at_call 169; ((with_reducible refine (nilidx_any _ _).mono ?_); rintro e w' ⟨rfl, rfl⟩))
  go_ret
  exact ⟨rfl, rfl⟩
theorem nilins_any (w : World) :
    Calls Tryz.prog 282 #[.slice none 0 0, .int .i64 0, .int .i64 0] w fun e w' => e = .returned (.tuple #[]) ∧ w = w' := by
  go_enter Tryz.func282, Tryz.ntmps282
  go_wp2
  refine wp_loop_rounds 1 ?_
  rw [rounds_succ]
  go_wp2
  go_end0
  exact ⟨rfl, rfl⟩
theorem nilpdq_any (w : World) :
    Calls Tryz.prog 244 #[.slice none 0 0, .int .i64 0, .int .i64 0, .int .i64 0] w fun e w' => e = .returned (.tuple #[]) ∧ w = w' := by
  go_enter Tryz.func244, Tryz.ntmps244
  go_wp2
  refine wp_loop_rounds 1 ?_
  rw [rounds_succ]
  go_wp2_with (go_at_call 282; ((with_reducible refine (nilins_any _).mono ?_); rintro e w' ⟨rfl, rfl⟩))
  exact bodyPost_ret (results_none rfl _ _ _) rfl ⟨rfl, rfl⟩
theorem nillen_any (w : World) : Calls Tryz.prog 245 #[.int .u64 0] w fun e w' => e = .returned (.int .i64 0) ∧ w = w' := by
  have L := Tryz.bits_Len 0 w (by decide) (by decide)
  exact L.mono fun e w' h => ⟨h.1, h.2.symm⟩
theorem nilsort_any (w : World) :
    Calls Tryz.prog 179 #[.slice none 0 0] w fun e w' => e = .returned (.tuple #[]) ∧ w = w' := by
  go_enter Tryz.func179, Tryz.ntmps179
  go_wp2_with (first | (go_at_call 245; ((with_reducible refine (nillen_any _).mono ?_); rintro e w' ⟨rfl, rfl⟩)) | (go_at_call 244; ((with_reducible refine (nilpdq_any _).mono ?_); rintro e w' ⟨rfl, rfl⟩)))
  go_end0
  exact ⟨rfl, rfl⟩
theorem nilcompact_any (w : World) :
    Calls Tryz.prog 180 #[.slice none 0 0] w fun e w' => e = .returned (.slice none 0 0) ∧ w = w' := by
  go_enter Tryz.func180, Tryz.ntmps180
  go_wp2
  go_ret
  exact ⟨rfl, rfl⟩
theorem nilindex_any (t : ByteArray) (w : World) :
    Calls Tryz.prog 181 #[.slice none 0 0, .string t] w fun e w' => e = .returned (.int .i64 (-1)) ∧ w = w' := by
  go_enter Tryz.func181, Tryz.ntmps181
  go_wp2
  refine wp_loop_rounds 1 ?_
  rw [rounds_succ]
  go_wp2
  go_ret
  exact ⟨rfl, rfl⟩
theorem nilcontains_any (t : ByteArray) (w : World) :
    Calls Tryz.prog 99 #[.slice none 0 0, .string t] w fun e w' => e = .returned (.bool false) ∧ w = w' := by
  go_enter Tryz.func99, Tryz.ntmps99
  go_wp2_with (go_at_call 181; ((with_reducible refine (nilindex_any _ _).mono ?_); rintro e w' ⟨rfl, rfl⟩))
  go_ret
  exact ⟨rfl, rfl⟩
theorem tracked_any (b : Nat) (w : World) (h : w.cell? ⟨b, 1, none⟩ = some (.slice none 0 0)) :
    Calls Tryz.prog 98 #[.pointer (some ⟨b, 0, none⟩)] w fun e w' => e = .returned (.slice none 0 0) ∧ w = w' := by
  go_enter Tryz.func98, Tryz.ntmps98
  go_wp2
  refine wp_loop_rounds 1 ?_
  rw [rounds_succ]
  go_wp2_with (first | (go_at_call 179; ((with_reducible refine (nilsort_any _).mono ?_); rintro e w' ⟨rfl, rfl⟩)) | (go_at_call 180; ((with_reducible refine (nilcompact_any _).mono ?_); rintro e w' ⟨rfl, rfl⟩)))
  go_ret
  exact ⟨rfl, rfl⟩
theorem nilclone_any (w : World) :
    Calls Tryz.prog 174 #[.slice none 0 0] w fun e w' => e = .returned (.slice none 0 0) ∧ w = w' :=
  (Tryz.clone_pages_nil 0 0 w).mono fun _e _w' h => ⟨h.1, h.2.symm⟩
theorem nilcopied_any (w : World) :
    Calls Tryz.prog 95 #[.slice none 0 0] w fun e w' => e = .returned (.slice none 0 0) ∧ w = w' := by
  go_enter Tryz.func95, Tryz.ntmps95
  go_wp2_with (go_at_call 174; ((with_reducible refine (nilclone_any _).mono ?_); rintro e w' ⟨rfl, rfl⟩))
  refine wp_loop_rounds 1 ?_
  rw [rounds_succ]
  go_wp2
  go_ret
  exact ⟨rfl, rfl⟩
end Go.Proofs.YtdhbeoahpfimbaaGreat
