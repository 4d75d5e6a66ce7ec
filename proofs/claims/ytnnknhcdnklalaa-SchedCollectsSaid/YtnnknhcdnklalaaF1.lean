/- The small functions of the program and its function values: what each call returns. No condition but that a captured cell holds what is named. -/
import Derived.Test.YtnnknhcdnklalaaTab
namespace Go.Proofs.Ytnnknhcdnklalaa.A
open Go Go.RowKit
set_option linter.unusedSimpArgs false
set_option linter.unusedVariables false
theorem ret_bool {a b : Bool} (h : a = b) : Ending.returned (.bool a) = .returned (.bool b) := by rw [h]
theorem ret_int {a b : Int} (h : a = b) : Ending.returned (.int .i64 a) = .returned (.int .i64 b) := by rw [h]
theorem from_v (n lo hi : Int) (w : World) : Calls Try.prog 31 #[.int .i64 n, .int .i64 lo, .int .i64 hi] w fun e w' => e = .returned (.bool (decide (lo ≤ n ∧ n ≤ hi))) ∧ w' = w := by
  by_cases h1 : lo ≤ n
  · by_cases h2 : n ≤ hi
    · have hd : decide (lo ≤ n ∧ n ≤ hi) = true := by simp [h1, h2]
      rw [hd]
      go_enter Try.func31, Try.ntmps31
      go_wp2
      go_ret
      exact ⟨rfl, rfl⟩
    · have hd : decide (lo ≤ n ∧ n ≤ hi) = false := by simp [h1, h2]
      rw [hd]
      go_enter Try.func31, Try.ntmps31
      go_wp2
      go_ret
      exact ⟨rfl, rfl⟩
  · have hd : decide (lo ≤ n ∧ n ≤ hi) = false := by simp [h1]
    rw [hd]
    go_enter Try.func31, Try.ntmps31
    go_wp2
    go_ret
    exact ⟨rfl, rfl⟩
theorem word_v (n : Int) (w : World) : Calls Try.prog 48 #[.int .i64 n] w fun e w' => e = .returned (.bool (decide (0 ≤ n ∧ n ≤ 65535))) ∧ w' = w := by
  by_cases h1 : 0 ≤ n
  · by_cases h2 : n ≤ 65535
    · have hd : decide (0 ≤ n ∧ n ≤ 65535) = true := by simp [h1, h2]
      rw [hd]
      go_enter Try.func48, Try.ntmps48
      go_wp2
      go_ret
      exact ⟨rfl, rfl⟩
    · have hd : decide (0 ≤ n ∧ n ≤ 65535) = false := by simp [h1, h2]
      rw [hd]
      go_enter Try.func48, Try.ntmps48
      go_wp2
      go_ret
      exact ⟨rfl, rfl⟩
  · have hd : decide (0 ≤ n ∧ n ≤ 65535) = false := by simp [h1]
    rw [hd]
    go_enter Try.func48, Try.ntmps48
    go_wp2
    go_ret
    exact ⟨rfl, rfl⟩
theorem living_v (p : Pr) (w : World) : Calls Try.prog 32 #[.agg (pcs p)] w fun e w' => e = .returned (.bool (p.f 2 != 0 && p.f 2 != 3)) ∧ w' = w.alloc (.cells (pcs p) 28) := by
  have c2 := pcs_int p 2 (by decide) (by decide)
  cases h1 : (p.f 2 != 0)
  all_goals
    go_enter Try.func32, Try.ntmps32
    go_wp2
    go_ret
    exact ⟨ret_bool (by simp [*]), rfl⟩
theorem cnext_v (i : Int) (p : Pr) (w : World) : Calls Try.prog 38 #[.int .i64 i, .agg (pcs p)] w fun e w' => e = .returned (.bool (p.f 2 == 1)) ∧ w' = w.alloc (.cells (pcs p) 28) := by
  have c2 := pcs_int p 2 (by decide) (by decide)
  go_enter Try.func38, Try.ntmps38
  go_wp2
  all_goals (go_ret; exact ⟨ret_bool (by simp [*]), rfl⟩)
theorem cfree_v (i : Int) (p : Pr) (w : World) : Calls Try.prog 40 #[.int .i64 i, .agg (pcs p)] w fun e w' => e = .returned (.bool (p.f 2 == 0)) ∧ w' = w.alloc (.cells (pcs p) 28) := by
  have c2 := pcs_int p 2 (by decide) (by decide)
  go_enter Try.func40, Try.ntmps40
  go_wp2
  all_goals (go_ret; exact ⟨ret_bool (by simp [*]), rfl⟩)
theorem cfind_v (i : Int) (p : Pr) (w : World) (a : Addr) (n : Int) (ha : w.cell? a = some (.int .i64 n)) : Calls Try.prog 39 #[.int .i64 i, .agg (pcs p), .pointer (some a)] w fun e w' => e = .returned (.bool (p.f 2 != 0 && p.f 0 == n)) ∧ w' = w.alloc (.cells (pcs p) 28) := by
  have c2 := pcs_int p 2 (by decide) (by decide)
  have c0 := pcs_int p 0 (by decide) (by decide)
  have hlt := World.block_lt_of_cell? w a ha
  have ha' : ∀ o, (w.alloc o).cell? a = some (.int .i64 n) := fun o => by rw [World.cell?_alloc_lt _ _ _ hlt]; exact ha
  cases h1 : (p.f 2 != 0)
  all_goals
    go_enter Try.func39, Try.ntmps39
    go_wp2
    go_ret
    exact ⟨ret_bool (by simp [*]), rfl⟩
theorem cvic_v (i : Int) (p : Pr) (w : World) (a b : Addr) (n m : Int) (ha : w.cell? a = some (.int .i64 n)) (hb : w.cell? b = some (.int .i64 m)) : Calls Try.prog 42 #[.int .i64 i, .agg (pcs p), .pointer (some a), .pointer (some b)] w fun e w' => e = .returned (.bool ((p.f 2 == n && !p.sw) && i != m)) ∧ w' = w.alloc (.cells (pcs p) 28) := by
  have c2 := pcs_int p 2 (by decide) (by decide)
  have c15 := pcs_sw p
  have hlt := World.block_lt_of_cell? w a ha
  have ha' : ∀ o, (w.alloc o).cell? a = some (.int .i64 n) := fun o => by rw [World.cell?_alloc_lt _ _ _ hlt]; exact ha
  have hltb := World.block_lt_of_cell? w b hb
  have hb' : ∀ o, (w.alloc o).cell? b = some (.int .i64 m) := fun o => by rw [World.cell?_alloc_lt _ _ _ hltb]; exact hb
  cases h1 : (p.f 2 == n) <;> cases h2 : p.sw
  all_goals
    go_enter Try.func42, Try.ntmps42
    go_wp2
    go_ret
    exact ⟨ret_bool (by simp [*]), rfl⟩
def waitsB (p : Pr) : Bool := if p.f 2 = 1 then p.f 25 == 0 && p.f 26 == 0 else if p.f 25 = 1 then p.f 26 == 0 else (p.f 25 == 2 || p.f 25 == 3) && decide (0 ≤ p.f 26 ∧ p.f 26 ≤ 23)
theorem waits_v (p : Pr) (w : World) : Calls Try.prog 45 #[.agg (pcs p)] w fun e w' => e = .returned (.bool (waitsB p)) ∧ w' = w.alloc (.cells (pcs p) 28) := by
  have c2 := pcs_int p 2 (by decide) (by decide)
  have c25 := pcs_int p 25 (by decide) (by decide)
  have c26 := pcs_int p 26 (by decide) (by decide)
  by_cases q : p.f 2 = 1
  · cases h1 : (p.f 25 == 0)
    all_goals
      go_enter Try.func45, Try.ntmps45
      go_wp2
      go_ret
      exact ⟨ret_bool (by simp [waitsB, *]), rfl⟩
  · by_cases q1 : p.f 25 = 1
    · go_enter Try.func45, Try.ntmps45
      go_wp2
      go_ret
      exact ⟨ret_bool (by simp [waitsB, *]), rfl⟩
    · by_cases q2 : p.f 25 = 2
      · go_enter Try.func45, Try.ntmps45
        go_wp2_with (first | (go_at_call 31; refine (from_v _ _ _ _).mono ?_; rintro e w' ⟨rfl, rfl⟩))
        go_ret
        exact ⟨ret_bool (by simp [waitsB, *]), rfl⟩
      · by_cases q3 : p.f 25 = 3
        · go_enter Try.func45, Try.ntmps45
          go_wp2_with (first | (go_at_call 31; refine (from_v _ _ _ _).mono ?_; rintro e w' ⟨rfl, rfl⟩))
          go_ret
          exact ⟨ret_bool (by simp [waitsB, *]), rfl⟩
        · go_enter Try.func45, Try.ntmps45
          go_wp2
          go_ret
          exact ⟨ret_bool (by simp [waitsB, *]), rfl⟩
end Go.Proofs.Ytnnknhcdnklalaa.A
