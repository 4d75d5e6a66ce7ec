-- Written by a program of this session (mp.py) over the kit's print.py, with proofs by hand for what the print does not take.
import Derived.Test.YtamncbcephalaaaAx0
namespace Go.Proofs.Ytamncbcephalaaa.A
open Go.RowKit Go.Proofs.YtamncbcephalaaaW.PrintWords Go.Proofs.YtamncbcephalaaaW.PrintLast Go.Proofs.YtamncbcephalaaaW.PrintMore
attribute [local go_sem] max2_int min2_int max_two min_two max_three min_three max_four min_four   -- for this text's walks alone
set_option linter.unusedVariables false
set_option linter.unusedSimpArgs false

/-! ### pipe_Dup: function 20 -/
def pipe_Dup.f (_k : Nat) (a0_0 : ByteArray) (a0_1 : Int) (a0_2 : Int) (a1 : Bool) : Option (ByteArray × Int × Int × Int) := if a1 = true then (if a0_2 = 0 then (some ((⟨#[]⟩ : ByteArray), 0, 0, 18)) else (if a0_2 = 24 then (some ((⟨#[]⟩ : ByteArray), 0, 0, 12)) else (some (a0_0, a0_1, wrap64 (a0_2 + 1), 0)))) else (if a0_1 = 0 then (some ((⟨#[]⟩ : ByteArray), 0, 0, 18)) else (if a0_1 = 24 then (some ((⟨#[]⟩ : ByteArray), 0, 0, 12)) else (some (a0_0, wrap64 (a0_1 + 1), a0_2, 0))))
set_option maxHeartbeats 1000000 in
set_option maxRecDepth 100000 in
theorem dup_t0 (d : ByteArray) (n m : Int) (w : World) (h : (m == 0) = true) : Calls Try.prog 20 #[.agg #[.string d, .int .i64 n, .int .i64 m], .bool true] w fun e w' => e = .returned (.tuple #[.agg #[.string (⟨#[]⟩ : ByteArray), .int .i64 0, .int .i64 0], .int .i64 18]) ∧ Below w.heap.size w w' := by
  have hu23 := Try.underlying23
  go_enter Try.func20, Try.ntmps20
  go_wp2
  exact bodyPost_ret (v := .tuple #[.agg #[.string (⟨#[]⟩ : ByteArray), .int .i64 0, .int .i64 0], .int .i64 18]) (by simp [results, Try.results20, go_sem]) rfl ⟨rfl, by repeat (first | exact Below.refl _ _ | apply below_alloc | apply below_set)⟩
set_option maxHeartbeats 1000000 in
set_option maxRecDepth 100000 in
theorem dup_t1 (d : ByteArray) (n m : Int) (w : World) (h : (m == 0) = false) (h2 : (m == 24) = true) : Calls Try.prog 20 #[.agg #[.string d, .int .i64 n, .int .i64 m], .bool true] w fun e w' => e = .returned (.tuple #[.agg #[.string (⟨#[]⟩ : ByteArray), .int .i64 0, .int .i64 0], .int .i64 12]) ∧ Below w.heap.size w w' := by
  have hu23 := Try.underlying23
  go_enter Try.func20, Try.ntmps20
  go_wp2
  exact bodyPost_ret (v := .tuple #[.agg #[.string (⟨#[]⟩ : ByteArray), .int .i64 0, .int .i64 0], .int .i64 12]) (by simp [results, Try.results20, go_sem]) rfl ⟨rfl, by repeat (first | exact Below.refl _ _ | apply below_alloc | apply below_set)⟩
set_option maxHeartbeats 1000000 in
set_option maxRecDepth 100000 in
theorem dup_t2 (d : ByteArray) (n m : Int) (w : World) (h : (m == 0) = false) (h2 : (m == 24) = false) : Calls Try.prog 20 #[.agg #[.string d, .int .i64 n, .int .i64 m], .bool true] w fun e w' => e = .returned (.tuple #[.agg #[.string d, .int .i64 n, .int .i64 (wrap64 (m + 1))], .int .i64 0]) ∧ Below w.heap.size w w' := by
  have hu23 := Try.underlying23
  go_enter Try.func20, Try.ntmps20
  go_wp2
  exact bodyPost_ret (v := .tuple #[.agg #[.string d, .int .i64 n, .int .i64 (wrap64 (m + 1))], .int .i64 0]) (by simp [results, Try.results20, go_sem]) rfl ⟨rfl, by repeat (first | exact Below.refl _ _ | apply below_alloc | apply below_set)⟩
set_option maxHeartbeats 1000000 in
set_option maxRecDepth 100000 in
theorem dup_f0 (d : ByteArray) (n m : Int) (w : World) (h : (n == 0) = true) : Calls Try.prog 20 #[.agg #[.string d, .int .i64 n, .int .i64 m], .bool false] w fun e w' => e = .returned (.tuple #[.agg #[.string (⟨#[]⟩ : ByteArray), .int .i64 0, .int .i64 0], .int .i64 18]) ∧ Below w.heap.size w w' := by
  have hu23 := Try.underlying23
  go_enter Try.func20, Try.ntmps20
  go_wp2
  exact bodyPost_ret (v := .tuple #[.agg #[.string (⟨#[]⟩ : ByteArray), .int .i64 0, .int .i64 0], .int .i64 18]) (by simp [results, Try.results20, go_sem]) rfl ⟨rfl, by repeat (first | exact Below.refl _ _ | apply below_alloc | apply below_set)⟩
set_option maxHeartbeats 1000000 in
set_option maxRecDepth 100000 in
theorem dup_f1 (d : ByteArray) (n m : Int) (w : World) (h : (n == 0) = false) (h2 : (n == 24) = true) : Calls Try.prog 20 #[.agg #[.string d, .int .i64 n, .int .i64 m], .bool false] w fun e w' => e = .returned (.tuple #[.agg #[.string (⟨#[]⟩ : ByteArray), .int .i64 0, .int .i64 0], .int .i64 12]) ∧ Below w.heap.size w w' := by
  have hu23 := Try.underlying23
  go_enter Try.func20, Try.ntmps20
  go_wp2
  exact bodyPost_ret (v := .tuple #[.agg #[.string (⟨#[]⟩ : ByteArray), .int .i64 0, .int .i64 0], .int .i64 12]) (by simp [results, Try.results20, go_sem]) rfl ⟨rfl, by repeat (first | exact Below.refl _ _ | apply below_alloc | apply below_set)⟩
set_option maxHeartbeats 1000000 in
set_option maxRecDepth 100000 in
theorem dup_f2 (d : ByteArray) (n m : Int) (w : World) (h : (n == 0) = false) (h2 : (n == 24) = false) : Calls Try.prog 20 #[.agg #[.string d, .int .i64 n, .int .i64 m], .bool false] w fun e w' => e = .returned (.tuple #[.agg #[.string d, .int .i64 (wrap64 (n + 1)), .int .i64 m], .int .i64 0]) ∧ Below w.heap.size w w' := by
  have hu23 := Try.underlying23
  go_enter Try.func20, Try.ntmps20
  go_wp2
  exact bodyPost_ret (v := .tuple #[.agg #[.string d, .int .i64 (wrap64 (n + 1)), .int .i64 m], .int .i64 0]) (by simp [results, Try.results20, go_sem]) rfl ⟨rfl, by repeat (first | exact Below.refl _ _ | apply below_alloc | apply below_set)⟩
theorem pipe_Dup.mono : ∀ a0 a1 a2 a3 k, LeO (pipe_Dup.f k a0 a1 a2 a3) (pipe_Dup.f (k + 1) a0 a1 a2 a3) := fun _ _ _ _ _ => LeO.refl _
theorem pipe_Dup.calls (k : Nat) (a0_0 : ByteArray) (a0_1 : Int) (a0_2 : Int) (a1 : Bool) (r1 : ByteArray) (r2 : Int) (r3 : Int) (r4 : Int) (w : World) (h : pipe_Dup.f k a0_0 a0_1 a0_2 a1 = some (r1, r2, r3, r4)) :
    Calls Try.prog 20 #[.agg #[.string a0_0, .int .i64 a0_1, .int .i64 a0_2], .bool a1] w fun e w' => e = .returned (.tuple #[.agg #[.string r1, .int .i64 r2, .int .i64 r3], .int .i64 r4]) ∧ Below w.heap.size w w' := by
  unfold pipe_Dup.f at h
  cases a1 with
  | true =>
    rw [if_pos rfl] at h
    split at h
    · rename_i c; cases h; exact dup_t0 _ _ _ _ (beq_iff_eq.mpr c)
    · rename_i c; split at h
      · rename_i c2; cases h; exact dup_t1 _ _ _ _ (beq_eq_false_iff_ne.mpr c) (beq_iff_eq.mpr c2)
      · rename_i c2; cases h; exact dup_t2 _ _ _ _ (beq_eq_false_iff_ne.mpr c) (beq_eq_false_iff_ne.mpr c2)
  | false =>
    rw [if_neg (by decide)] at h
    split at h
    · rename_i c; cases h; exact dup_f0 _ _ _ _ (beq_iff_eq.mpr c)
    · rename_i c; split at h
      · rename_i c2; cases h; exact dup_f1 _ _ _ _ (beq_eq_false_iff_ne.mpr c) (beq_iff_eq.mpr c2)
      · rename_i c2; cases h; exact dup_f2 _ _ _ _ (beq_eq_false_iff_ne.mpr c) (beq_eq_false_iff_ne.mpr c2)

end Go.Proofs.Ytamncbcephalaaa.A
