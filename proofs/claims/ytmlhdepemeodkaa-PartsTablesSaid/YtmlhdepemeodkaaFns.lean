/- mmu.from, mmu.bit, mmu.register, mmu.Reset: what each call answers. No condition. -/
import Derived.Test.YtmlhdepemeodkaaCells
namespace Go.Proofs.Ytmlhdepemeodkaa.A
open Go Go.RowKit
set_option linter.unusedSimpArgs false
set_option linter.unusedVariables false
theorem from_v (n m : Int) (w : World) : Calls Try.prog 16 #[.int .i64 n, .int .i64 m] w fun e w' => e = .returned (.bool (decide (0 ≤ n) && decide (n ≤ m))) ∧ w' = w := by
  by_cases h : 0 ≤ n
  · by_cases h2 : n ≤ m
    · go_enter Try.func16, Try.ntmps16
      go_wp2
      exact bodyPost_ret (v := .bool true) (by simp [results, Try.results16, go_sem]) rfl ⟨by simp [h, h2], rfl⟩
    · go_enter Try.func16, Try.ntmps16
      go_wp2
      exact bodyPost_ret (v := .bool false) (by simp [results, Try.results16, go_sem]) rfl ⟨by simp [h, h2], rfl⟩
  · go_enter Try.func16, Try.ntmps16
    go_wp2
    exact bodyPost_ret (v := .bool false) (by simp [results, Try.results16, go_sem]) rfl ⟨by rw [show decide (0 ≤ n) = false from decide_eq_false (by omega)]; rfl, rfl⟩
theorem bit_v (b : Bool) (n : Int) (w : World) : Calls Try.prog 17 #[.bool b, .int .i64 n] w fun e w' => e = .returned (.int .i64 (if b = true then n else 0)) ∧ w' = w := by
  cases b
  · go_enter Try.func17, Try.ntmps17
    go_wp2
    exact bodyPost_ret (v := .int .i64 0) (by simp [results, Try.results17, go_sem]) rfl ⟨rfl, rfl⟩
  · go_enter Try.func17, Try.ntmps17
    go_wp2
    exact bodyPost_ret (v := .int .i64 n) (by simp [results, Try.results17, go_sem]) rfl ⟨rfl, rfl⟩
set_option maxHeartbeats 4000000 in
set_option maxRecDepth 100000 in
theorem reg48 (w : World) : Calls Try.prog 18 #[.int .i64 48] w fun e w' => e = .returned (.tuple #[.int .i64 1, .int .i64 0, .bool false, .bool true]) ∧ w' = w := by
  go_enter Try.func18, Try.ntmps18
  go_wp2_with (go_at_call 16; refine (from_v _ _ _).mono ?_; rintro e w' ⟨rfl, rfl⟩; try go_simp)
  exact bodyPost_ret (v := .tuple #[.int .i64 1, .int .i64 0, .bool false, .bool true]) (by simp [results, Try.results18, go_sem]) rfl ⟨rfl, rfl⟩
set_option maxHeartbeats 4000000 in
set_option maxRecDepth 100000 in
theorem reg50 (w : World) : Calls Try.prog 18 #[.int .i64 50] w fun e w' => e = .returned (.tuple #[.int .i64 1, .int .i64 0, .bool true, .bool true]) ∧ w' = w := by
  go_enter Try.func18, Try.ntmps18
  go_wp2_with (go_at_call 16; refine (from_v _ _ _).mono ?_; rintro e w' ⟨rfl, rfl⟩; try go_simp)
  exact bodyPost_ret (v := .tuple #[.int .i64 1, .int .i64 0, .bool true, .bool true]) (by simp [results, Try.results18, go_sem]) rfl ⟨rfl, rfl⟩
set_option maxHeartbeats 4000000 in
set_option maxRecDepth 100000 in
theorem reg52 (w : World) : Calls Try.prog 18 #[.int .i64 52] w fun e w' => e = .returned (.tuple #[.int .i64 1, .int .i64 1, .bool false, .bool true]) ∧ w' = w := by
  go_enter Try.func18, Try.ntmps18
  go_wp2_with (go_at_call 16; refine (from_v _ _ _).mono ?_; rintro e w' ⟨rfl, rfl⟩; try go_simp)
  exact bodyPost_ret (v := .tuple #[.int .i64 1, .int .i64 1, .bool false, .bool true]) (by simp [results, Try.results18, go_sem]) rfl ⟨rfl, rfl⟩
set_option maxHeartbeats 4000000 in
set_option maxRecDepth 100000 in
theorem reg54 (w : World) : Calls Try.prog 18 #[.int .i64 54] w fun e w' => e = .returned (.tuple #[.int .i64 1, .int .i64 1, .bool true, .bool true]) ∧ w' = w := by
  go_enter Try.func18, Try.ntmps18
  go_wp2_with (go_at_call 16; refine (from_v _ _ _).mono ?_; rintro e w' ⟨rfl, rfl⟩; try go_simp)
  exact bodyPost_ret (v := .tuple #[.int .i64 1, .int .i64 1, .bool true, .bool true]) (by simp [results, Try.results18, go_sem]) rfl ⟨rfl, rfl⟩
set_option maxHeartbeats 4000000 in
set_option maxRecDepth 100000 in
theorem reg56 (w : World) : Calls Try.prog 18 #[.int .i64 56] w fun e w' => e = .returned (.tuple #[.int .i64 1, .int .i64 2, .bool false, .bool true]) ∧ w' = w := by
  go_enter Try.func18, Try.ntmps18
  go_wp2_with (go_at_call 16; refine (from_v _ _ _).mono ?_; rintro e w' ⟨rfl, rfl⟩; try go_simp)
  exact bodyPost_ret (v := .tuple #[.int .i64 1, .int .i64 2, .bool false, .bool true]) (by simp [results, Try.results18, go_sem]) rfl ⟨rfl, rfl⟩
set_option maxHeartbeats 4000000 in
set_option maxRecDepth 100000 in
theorem reg58 (w : World) : Calls Try.prog 18 #[.int .i64 58] w fun e w' => e = .returned (.tuple #[.int .i64 1, .int .i64 2, .bool true, .bool true]) ∧ w' = w := by
  go_enter Try.func18, Try.ntmps18
  go_wp2_with (go_at_call 16; refine (from_v _ _ _).mono ?_; rintro e w' ⟨rfl, rfl⟩; try go_simp)
  exact bodyPost_ret (v := .tuple #[.int .i64 1, .int .i64 2, .bool true, .bool true]) (by simp [results, Try.results18, go_sem]) rfl ⟨rfl, rfl⟩
set_option maxHeartbeats 4000000 in
set_option maxRecDepth 100000 in
theorem reg60 (w : World) : Calls Try.prog 18 #[.int .i64 60] w fun e w' => e = .returned (.tuple #[.int .i64 1, .int .i64 3, .bool false, .bool true]) ∧ w' = w := by
  go_enter Try.func18, Try.ntmps18
  go_wp2_with (go_at_call 16; refine (from_v _ _ _).mono ?_; rintro e w' ⟨rfl, rfl⟩; try go_simp)
  exact bodyPost_ret (v := .tuple #[.int .i64 1, .int .i64 3, .bool false, .bool true]) (by simp [results, Try.results18, go_sem]) rfl ⟨rfl, rfl⟩
set_option maxHeartbeats 4000000 in
set_option maxRecDepth 100000 in
theorem reg62 (w : World) : Calls Try.prog 18 #[.int .i64 62] w fun e w' => e = .returned (.tuple #[.int .i64 1, .int .i64 3, .bool true, .bool true]) ∧ w' = w := by
  go_enter Try.func18, Try.ntmps18
  go_wp2_with (go_at_call 16; refine (from_v _ _ _).mono ?_; rintro e w' ⟨rfl, rfl⟩; try go_simp)
  exact bodyPost_ret (v := .tuple #[.int .i64 1, .int .i64 3, .bool true, .bool true]) (by simp [results, Try.results18, go_sem]) rfl ⟨rfl, rfl⟩
set_option maxHeartbeats 4000000 in
set_option maxRecDepth 100000 in
theorem reg64 (w : World) : Calls Try.prog 18 #[.int .i64 64] w fun e w' => e = .returned (.tuple #[.int .i64 1, .int .i64 4, .bool false, .bool true]) ∧ w' = w := by
  go_enter Try.func18, Try.ntmps18
  go_wp2_with (go_at_call 16; refine (from_v _ _ _).mono ?_; rintro e w' ⟨rfl, rfl⟩; try go_simp)
  exact bodyPost_ret (v := .tuple #[.int .i64 1, .int .i64 4, .bool false, .bool true]) (by simp [results, Try.results18, go_sem]) rfl ⟨rfl, rfl⟩
set_option maxHeartbeats 4000000 in
set_option maxRecDepth 100000 in
theorem reg66 (w : World) : Calls Try.prog 18 #[.int .i64 66] w fun e w' => e = .returned (.tuple #[.int .i64 1, .int .i64 4, .bool true, .bool true]) ∧ w' = w := by
  go_enter Try.func18, Try.ntmps18
  go_wp2_with (go_at_call 16; refine (from_v _ _ _).mono ?_; rintro e w' ⟨rfl, rfl⟩; try go_simp)
  exact bodyPost_ret (v := .tuple #[.int .i64 1, .int .i64 4, .bool true, .bool true]) (by simp [results, Try.results18, go_sem]) rfl ⟨rfl, rfl⟩
set_option maxHeartbeats 4000000 in
set_option maxRecDepth 100000 in
theorem reg68 (w : World) : Calls Try.prog 18 #[.int .i64 68] w fun e w' => e = .returned (.tuple #[.int .i64 1, .int .i64 5, .bool false, .bool true]) ∧ w' = w := by
  go_enter Try.func18, Try.ntmps18
  go_wp2_with (go_at_call 16; refine (from_v _ _ _).mono ?_; rintro e w' ⟨rfl, rfl⟩; try go_simp)
  exact bodyPost_ret (v := .tuple #[.int .i64 1, .int .i64 5, .bool false, .bool true]) (by simp [results, Try.results18, go_sem]) rfl ⟨rfl, rfl⟩
set_option maxHeartbeats 4000000 in
set_option maxRecDepth 100000 in
theorem reg70 (w : World) : Calls Try.prog 18 #[.int .i64 70] w fun e w' => e = .returned (.tuple #[.int .i64 1, .int .i64 5, .bool true, .bool true]) ∧ w' = w := by
  go_enter Try.func18, Try.ntmps18
  go_wp2_with (go_at_call 16; refine (from_v _ _ _).mono ?_; rintro e w' ⟨rfl, rfl⟩; try go_simp)
  exact bodyPost_ret (v := .tuple #[.int .i64 1, .int .i64 5, .bool true, .bool true]) (by simp [results, Try.results18, go_sem]) rfl ⟨rfl, rfl⟩
set_option maxHeartbeats 4000000 in
set_option maxRecDepth 100000 in
theorem reg72 (w : World) : Calls Try.prog 18 #[.int .i64 72] w fun e w' => e = .returned (.tuple #[.int .i64 1, .int .i64 6, .bool false, .bool true]) ∧ w' = w := by
  go_enter Try.func18, Try.ntmps18
  go_wp2_with (go_at_call 16; refine (from_v _ _ _).mono ?_; rintro e w' ⟨rfl, rfl⟩; try go_simp)
  exact bodyPost_ret (v := .tuple #[.int .i64 1, .int .i64 6, .bool false, .bool true]) (by simp [results, Try.results18, go_sem]) rfl ⟨rfl, rfl⟩
set_option maxHeartbeats 4000000 in
set_option maxRecDepth 100000 in
theorem reg74 (w : World) : Calls Try.prog 18 #[.int .i64 74] w fun e w' => e = .returned (.tuple #[.int .i64 1, .int .i64 6, .bool true, .bool true]) ∧ w' = w := by
  go_enter Try.func18, Try.ntmps18
  go_wp2_with (go_at_call 16; refine (from_v _ _ _).mono ?_; rintro e w' ⟨rfl, rfl⟩; try go_simp)
  exact bodyPost_ret (v := .tuple #[.int .i64 1, .int .i64 6, .bool true, .bool true]) (by simp [results, Try.results18, go_sem]) rfl ⟨rfl, rfl⟩
set_option maxHeartbeats 4000000 in
set_option maxRecDepth 100000 in
theorem reg76 (w : World) : Calls Try.prog 18 #[.int .i64 76] w fun e w' => e = .returned (.tuple #[.int .i64 1, .int .i64 7, .bool false, .bool true]) ∧ w' = w := by
  go_enter Try.func18, Try.ntmps18
  go_wp2_with (go_at_call 16; refine (from_v _ _ _).mono ?_; rintro e w' ⟨rfl, rfl⟩; try go_simp)
  exact bodyPost_ret (v := .tuple #[.int .i64 1, .int .i64 7, .bool false, .bool true]) (by simp [results, Try.results18, go_sem]) rfl ⟨rfl, rfl⟩
set_option maxHeartbeats 4000000 in
set_option maxRecDepth 100000 in
theorem reg78 (w : World) : Calls Try.prog 18 #[.int .i64 78] w fun e w' => e = .returned (.tuple #[.int .i64 1, .int .i64 7, .bool true, .bool true]) ∧ w' = w := by
  go_enter Try.func18, Try.ntmps18
  go_wp2_with (go_at_call 16; refine (from_v _ _ _).mono ?_; rintro e w' ⟨rfl, rfl⟩; try go_simp)
  exact bodyPost_ret (v := .tuple #[.int .i64 1, .int .i64 7, .bool true, .bool true]) (by simp [results, Try.results18, go_sem]) rfl ⟨rfl, rfl⟩
theorem reg_b (k : Nat) (hk : k < 8) (w : World) : Calls Try.prog 18 #[.int .i64 ((48 : Int) + 4 * (k : Int))] w fun e w' => e = .returned (.tuple #[.int .i64 1, .int .i64 (k : Int), .bool false, .bool true]) ∧ w' = w := by
  match k, hk with
  | 0, _ => exact reg48 w
  | 1, _ => exact reg52 w
  | 2, _ => exact reg56 w
  | 3, _ => exact reg60 w
  | 4, _ => exact reg64 w
  | 5, _ => exact reg68 w
  | 6, _ => exact reg72 w
  | 7, _ => exact reg76 w
theorem reg_d (k : Nat) (hk : k < 8) (w : World) : Calls Try.prog 18 #[.int .i64 ((50 : Int) + 4 * (k : Int))] w fun e w' => e = .returned (.tuple #[.int .i64 1, .int .i64 (k : Int), .bool true, .bool true]) ∧ w' = w := by
  match k, hk with
  | 0, _ => exact reg50 w
  | 1, _ => exact reg54 w
  | 2, _ => exact reg58 w
  | 3, _ => exact reg62 w
  | 4, _ => exact reg66 w
  | 5, _ => exact reg70 w
  | 6, _ => exact reg74 w
  | 7, _ => exact reg78 w
set_option maxRecDepth 100000 in
theorem reset_v (u : Ar) (w : World) : Calls Try.prog 8 #[.agg (arr 67 0 u)] w fun e w' => e = .returned (.agg (arr 67 0 az)) ∧ Below w.heap.size w w' := by
  have hk0 := Blk.new w 67 0 27 u
  have HB0 := hidI (Below.alloc (Below.refl w.heap.size w) (Nat.le_refl _) (.cells (arr 67 0 u) 27))
  go_enter Try.func8, Try.ntmps8
  go_wp2_with (first
    | ((with_reducible refine g_alloc 27 ?_ rfl); have _t := HB0; refine st_alloc27 (by rfl) rfl ?_; have hk1 := Blk.new1 w (.cells (arr 67 0 u) 27) 67 0 27 az; have hs0 := HB0.out.size; have HB1 := hidI (HB0.out.alloc HB0.out.size (.cells (arr 67 0 az) 27)); clear HB0; try go_simp)
    | ((with_reducible refine g_build 27 ?_ rfl); refine st_build27 (by rfl) rfl ?_)
    | ((with_reducible refine g_store 27 ?_ rfl); refine st_store27 (d := az) (by rfl) rfl rfl rfl hk1 (by omega) (by omega) ?_; intro w2 hk2 hu2; have HB2 := hidI (HB1.out.trans (hu2.below (by omega))); clear hk1 HB1 hu2))
  exact bodyPost_ret (hk2.res rfl _ rfl) rfl ⟨by rw [up_arr], HB2.out⟩
end Go.Proofs.Ytmlhdepemeodkaa.A
