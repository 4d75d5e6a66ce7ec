-- Written by a program of this session (mp.py) over the kit's print.py, with proofs by hand for what the print does not take.
import Derived.Test.YtmlhdepemeodkaaAx0
import Derived.Test.YtmlhdepemeodkaaTrans
namespace Go.Proofs.Ytmlhdepemeodkaa.A
open Go.RowKit Go.Proofs.YtmlhdepemeodkaaW.PrintWords Go.Proofs.YtmlhdepemeodkaaW.PrintLast Go.Proofs.YtmlhdepemeodkaaW.PrintMore
attribute [local go_sem] max2_int min2_int max_two min_two max_three min_three max_four min_four   -- for this text's walks alone
set_option linter.unusedVariables false
set_option linter.unusedSimpArgs false

/-! ### pipe_Write: function 13 -/
def pipe_Write.f (a0_0 : ByteArray) (a0_1 : Int) (a0_2 : Int) (a1 : ByteArray) : Option (ByteArray × Int × Int × Int × Int) := if a0_0.size ≤ 64 then (if a0_2 = 0 then (some ((⟨#[]⟩ : ByteArray), 0, 0, 0, 18)) else (if a0_1 = 0 then (some ((⟨#[]⟩ : ByteArray), 0, 0, 0, 19)) else (if a1.toList = ([] : List UInt8) then (some (a0_0 ++ a1.extract 0 a1.size, a0_1, a0_2, (a1.size : Int), 0)) else (if a0_0.size = 64 then (some ((⟨#[]⟩ : ByteArray), 0, 0, 0, 20)) else (if a1.size + a0_0.size ≤ 64 then (some (a0_0 ++ a1.extract 0 a1.size, a0_1, a0_2, (a1.size : Int), 0)) else (some (a0_0 ++ a1.extract 0 (64 - a0_0.size), a0_1, a0_2, 64 - (a0_0.size : Int), 0))))))) else none
set_option maxHeartbeats 1000000 in
set_option maxRecDepth 100000 in
theorem wr_m (d s : ByteArray) (n m : Int) (w : World) (h : (m == 0) = true) (hd : d.size ≤ 64) : Calls Try.prog 13 #[.agg #[.string d, .int .i64 n, .int .i64 m], .string s] w fun e w' => e = .returned (.tuple #[.agg #[.string (⟨#[]⟩ : ByteArray), .int .i64 0, .int .i64 0], .int .i64 0, .int .i64 18]) ∧ Below w.heap.size w w' := by
  have hu43 := Try.underlying43
  go_enter Try.func13, Try.ntmps13
  go_wp2
  all_goals exact bodyPost_ret (v := .tuple #[.agg #[.string (⟨#[]⟩ : ByteArray), .int .i64 0, .int .i64 0], .int .i64 0, .int .i64 18]) (by simp [results, Try.results13, go_sem]) rfl ⟨rfl, by repeat (first | exact Below.refl _ _ | apply below_alloc | apply below_set | apply below_drew1)⟩
set_option maxHeartbeats 1000000 in
set_option maxRecDepth 100000 in
theorem wr_n (d s : ByteArray) (n m : Int) (w : World) (h : (m == 0) = false) (h2 : (n == 0) = true) (hd : d.size ≤ 64) : Calls Try.prog 13 #[.agg #[.string d, .int .i64 n, .int .i64 m], .string s] w fun e w' => e = .returned (.tuple #[.agg #[.string (⟨#[]⟩ : ByteArray), .int .i64 0, .int .i64 0], .int .i64 0, .int .i64 19]) ∧ Below w.heap.size w w' := by
  have hu43 := Try.underlying43
  go_enter Try.func13, Try.ntmps13
  go_wp2
  all_goals exact bodyPost_ret (v := .tuple #[.agg #[.string (⟨#[]⟩ : ByteArray), .int .i64 0, .int .i64 0], .int .i64 0, .int .i64 19]) (by simp [results, Try.results13, go_sem]) rfl ⟨rfl, by repeat (first | exact Below.refl _ _ | apply below_alloc | apply below_set | apply below_drew1)⟩
set_option maxHeartbeats 1000000 in
set_option maxRecDepth 100000 in
theorem wr_f (d s : ByteArray) (n m : Int) (w : World) (h : (m == 0) = false) (h2 : (n == 0) = false) (hs : (s.toList == []) = false) (hs1 : (s.toList != []) = true) (hp : 0 < s.size) (hd : d.size = 64) : Calls Try.prog 13 #[.agg #[.string d, .int .i64 n, .int .i64 m], .string s] w fun e w' => e = .returned (.tuple #[.agg #[.string (⟨#[]⟩ : ByteArray), .int .i64 0, .int .i64 0], .int .i64 0, .int .i64 20]) ∧ Below w.heap.size w w' := by
  have hu43 := Try.underlying43
  have hd1 : d.size ≤ 64 := by omega
  have hk : (64 : Int) - (d.size : Int) < s.size := by omega
  have hz : ((64 : Int) - (d.size : Int) == 0) = true := by rw [hd]; rfl
  have hz1 : (64 : Int) - (d.size : Int) < 1 := by omega
  clear hd
  go_enter Try.func13, Try.ntmps13
  go_wp2
  all_goals exact bodyPost_ret (v := .tuple #[.agg #[.string (⟨#[]⟩ : ByteArray), .int .i64 0, .int .i64 0], .int .i64 0, .int .i64 20]) (by simp [results, Try.results13, go_sem]) rfl ⟨rfl, by repeat (first | exact Below.refl _ _ | apply below_alloc | apply below_set | apply below_drew1)⟩
set_option maxHeartbeats 1000000 in
set_option maxRecDepth 100000 in
theorem wr_z (d s : ByteArray) (n m : Int) (w : World) (h : (m == 0) = false) (h2 : (n == 0) = false) (hs : (s.toList == []) = true) (hs1 : (s.toList != []) = false) (hA : s.size + d.size ≤ 64) : Calls Try.prog 13 #[.agg #[.string d, .int .i64 n, .int .i64 m], .string s] w fun e w' => e = .returned (.tuple #[.agg #[.string (d ++ s.extract 0 s.size), .int .i64 n, .int .i64 m], .int .i64 s.size, .int .i64 0]) ∧ Below w.heap.size w w' := by
  have hu43 := Try.underlying43
  have hd : d.size ≤ 64 := by omega
  have hsub : IntKind.i64.wrap (64 - (d.size : Int)) = 64 - (d.size : Int) := by rw [IntKind.wrap_i64]; omega
  have hlt : ¬ ((64 : Int) - (d.size : Int) < (s.size : Int)) := by omega
  have he : (s.extract 0 s.size).size = s.size := by simp
  go_enter Try.func13, Try.ntmps13
  go_wp2
  go_region
  all_goals go_wp2
  all_goals exact bodyPost_ret (v := .tuple #[.agg #[.string (d ++ s.extract 0 s.size), .int .i64 n, .int .i64 m], .int .i64 s.size, .int .i64 0]) (by simp [results, Try.results13, go_sem]) rfl ⟨rfl, by repeat (first | exact Below.refl _ _ | apply below_alloc | apply below_set | apply below_drew1)⟩
set_option maxHeartbeats 1000000 in
set_option maxRecDepth 100000 in
theorem wr_a (d s : ByteArray) (n m : Int) (w : World) (h : (m == 0) = false) (h2 : (n == 0) = false) (hs : (s.toList == []) = false) (hs1 : (s.toList != []) = true) (hp : 0 < s.size) (hA : s.size + d.size ≤ 64) : Calls Try.prog 13 #[.agg #[.string d, .int .i64 n, .int .i64 m], .string s] w fun e w' => e = .returned (.tuple #[.agg #[.string (d ++ s.extract 0 s.size), .int .i64 n, .int .i64 m], .int .i64 s.size, .int .i64 0]) ∧ Below w.heap.size w w' := by
  have hu43 := Try.underlying43
  have hd : d.size ≤ 64 := by omega
  have hsub : IntKind.i64.wrap (64 - (d.size : Int)) = 64 - (d.size : Int) := by rw [IntKind.wrap_i64]; omega
  have hlt : ¬ ((64 : Int) - (d.size : Int) < (s.size : Int)) := by omega
  have he : (s.extract 0 s.size).size = s.size := by simp
  have hz : ((s.size : Int) == 0) = false := by rw [beq_eq_false_iff_ne]; omega
  have hz1 : ¬ ((s.size : Int) < 1) := by omega
  go_enter Try.func13, Try.ntmps13
  go_wp2
  go_region
  all_goals go_wp2
  all_goals exact bodyPost_ret (v := .tuple #[.agg #[.string (d ++ s.extract 0 s.size), .int .i64 n, .int .i64 m], .int .i64 s.size, .int .i64 0]) (by simp [results, Try.results13, go_sem]) rfl ⟨rfl, by repeat (first | exact Below.refl _ _ | apply below_alloc | apply below_set | apply below_drew1)⟩
set_option maxHeartbeats 1000000 in
set_option maxRecDepth 100000 in
theorem wr_b (d s : ByteArray) (n m : Int) (w : World) (h : (m == 0) = false) (h2 : (n == 0) = false) (hs : (s.toList == []) = false) (hs1 : (s.toList != []) = true) (hd : d.size < 64) (hA : 64 < s.size + d.size) : Calls Try.prog 13 #[.agg #[.string d, .int .i64 n, .int .i64 m], .string s] w fun e w' => e = .returned (.tuple #[.agg #[.string (d ++ s.extract 0 (64 - d.size)), .int .i64 n, .int .i64 m], .int .i64 (64 - d.size), .int .i64 0]) ∧ Below w.heap.size w w' := by
  have hu43 := Try.underlying43
  have hz : ((64 - (d.size : Int)) == 0) = false := by rw [beq_eq_false_iff_ne]; omega
  have hz1 : ¬ (64 - (d.size : Int) < 1) := by omega
  have hlt : ((64 : Int) - (d.size : Int) < (s.size : Int)) := by omega
  have h0 : (0 : Int) ≤ 64 - d.size := by omega
  have h1 : (64 : Int) - d.size ≤ s.size := by omega
  go_enter Try.func13, Try.ntmps13
  go_wp2
  go_region
  all_goals go_wp2
  all_goals exact bodyPost_ret (v := .tuple #[.agg #[.string (d ++ s.extract 0 (64 - d.size)), .int .i64 n, .int .i64 m], .int .i64 (64 - d.size), .int .i64 0]) (by simp [results, Try.results13, go_sem]) rfl ⟨rfl, by repeat (first | exact Below.refl _ _ | apply below_alloc | apply below_set | apply below_drew1)⟩
theorem pipe_Write.calls (a0_0 : ByteArray) (a0_1 : Int) (a0_2 : Int) (a1 : ByteArray) (r1 : ByteArray) (r2 : Int) (r3 : Int) (r4 : Int) (r5 : Int) (w : World) (h : pipe_Write.f a0_0 a0_1 a0_2 a1 = some (r1, r2, r3, r4, r5)) :
    Calls Try.prog 13 #[.agg #[.string a0_0, .int .i64 a0_1, .int .i64 a0_2], .string a1] w fun e w' => e = .returned (.tuple #[.agg #[.string r1, .int .i64 r2, .int .i64 r3], .int .i64 r4, .int .i64 r5]) ∧ Below w.heap.size w w' := by
  unfold pipe_Write.f at h
  split at h
  · rename_i hd; split at h
    · rename_i c; cases h; exact wr_m _ _ _ _ _ (beq_iff_eq.mpr c) hd
    · rename_i c; split at h
      · rename_i c2; cases h; exact wr_n _ _ _ _ _ (beq_eq_false_iff_ne.mpr c) (beq_iff_eq.mpr c2) hd
      · rename_i c2; split at h
        · rename_i c3
          have hs0 : a1.size = 0 := by
            have := congrArg List.length c3
            rw [ByteArray.toList_eq, Array.length_toList] at this
            exact this
          cases h; exact wr_z _ _ _ _ _ (beq_eq_false_iff_ne.mpr c) (beq_eq_false_iff_ne.mpr c2) (by rw [c3]; rfl) (by rw [c3]; rfl) (by omega)
        · rename_i c3
          have hp : 0 < a1.size := by
            rcases Nat.eq_zero_or_pos a1.size with h0 | h0
            · refine absurd ?_ c3
              rw [ByteArray.toList_eq]
              exact List.length_eq_zero_iff.1 (by rw [Array.length_toList]; exact h0)
            · exact h0
          have e1 : (a1.toList == []) = false := beq_eq_false_iff_ne.mpr c3
          have e2 : (a1.toList != []) = true := bne_iff_ne.mpr c3
          split at h
          · rename_i c4; cases h; exact wr_f _ _ _ _ _ (beq_eq_false_iff_ne.mpr c) (beq_eq_false_iff_ne.mpr c2) e1 e2 hp c4
          · rename_i c4; split at h
            · rename_i c5; cases h; exact wr_a _ _ _ _ _ (beq_eq_false_iff_ne.mpr c) (beq_eq_false_iff_ne.mpr c2) e1 e2 hp c5
            · rename_i c5; cases h; exact wr_b _ _ _ _ _ (beq_eq_false_iff_ne.mpr c) (beq_eq_false_iff_ne.mpr c2) e1 e2 (by omega) (by omega)
  · cases h

end Go.Proofs.Ytmlhdepemeodkaa.A
