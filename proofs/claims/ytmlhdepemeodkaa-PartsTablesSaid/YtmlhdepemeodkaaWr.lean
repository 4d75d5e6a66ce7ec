/- mmu.Write at the registers of the pages of user mode: what it answers. Conditions: the value is one that Read gives of a page within its bounds. -/
import Derived.Test.YtmlhdepemeodkaaRd
namespace Go.Proofs.Ytmlhdepemeodkaa.A
open Go Go.RowKit
set_option linter.unusedSimpArgs false
set_option linter.unusedVariables false
set_option maxHeartbeats 8000000 in
set_option maxRecDepth 100000 in
theorem write_b (u : Ar) (x v : Int) (k : Nat) (hk : k < 8) (hx : x = 48 + 4 * (k : Int)) (hv : Go.bits .and .i64 v 4095 = v) (w : World) : Calls Try.prog 10 #[.agg (arr 67 0 u), .int .i64 x, .int .i64 v] w fun e w' => e = .returned (.tuple #[.agg (arr 67 0 (sf u (33 + k * 4) v)), .bool true]) ∧ Below w.heap.size w w' := by
  have hk0 := Blk.new w 67 0 27 u
  have HB0 := hidI (Below.alloc (Below.refl w.heap.size w) (Nat.le_refl _) (.cells (arr 67 0 u) 27))
  have hs0 := HB0.out.size
  have cr := fun W => reg_b k hk W
  rw [← hx] at cr
  have n0 : (x == 0) = false := by simp; omega
  have n2 : (x == 2) = false := by simp; omega
  have hkl : (k : Int) < 8 := by omega
  have hkp : (0 : Int) ≤ k := by omega
  have HV := hidI hv
  clear hx hv
  go_enter Try.func10, Try.ntmps10
  go_wp2_with (first
    | (go_at_call 18; refine (cr _).mono ?_; rintro e w' ⟨rfl, rfl⟩)
    | ((with_reducible refine g_alloc 27 ?_ rfl); have _t := HB0; refine st_alloc27 (by rfl) rfl ?_; have hz1 := Blk.new1 w (.cells (arr 67 0 u) 27) 67 0 27 az; have hk1 := hk0.alloc (.cells (arr 67 0 az) 27); have HB1 := hidI (HB0.out.alloc HB0.out.size (.cells (arr 67 0 az) 27)); clear HB0 hk0; try go_simp)
    | ((with_reducible refine g_store 3 ?_ rfl); refine st_setF (j := 33 + k * 4) (by rfl) rfl rfl rfl hk1 (by omega) (by omega) ?_; intro w2 hk2 hu2; have hz2 := hz1.upd hu2 (by omega); have HB2 := hidI (HB1.out.trans (hu2.below (by omega))); clear hk1 hz1 HB1 hu2; rw [HV.out] at hk2)
    | ((with_reducible refine g_load 27 ?_ rfl); refine st_load27 (by rfl) rfl rfl hk2 (by omega) (by omega) ?_; rw [sh_zero])
    | ((with_reducible refine g_store 27 ?_ rfl); refine st_store27 (by rfl) rfl rfl rfl hz2 (by omega) (by omega) ?_; intro w3 hz3 hu3; have HB3 := hidI (HB2.out.trans (hu3.below (by omega))); clear hz2 HB2 hu3))
  exact bodyPost_ret (hz3.res2 (v := .bool true) rfl _ rfl rfl) rfl ⟨by rw [up_arr], HB3.out⟩
set_option maxHeartbeats 8000000 in
set_option maxRecDepth 100000 in
theorem write_d (u : Ar) (x v l c : Int) (k : Nat) (hk : k < 8) (hx : x = 50 + 4 * (k : Int)) (h1 : Go.bits .and .i64 v 255 = l) (h2 : l ≤ 128) (h3 : Go.bits .and .i64 (v / 256) 3 = c) (h4 : c ≤ 2) (w : World) : Calls Try.prog 10 #[.agg (arr 67 0 u), .int .i64 x, .int .i64 v] w fun e w' => e = .returned (.tuple #[.agg (arr 67 0 (sx (sf (sf u (33 + k * 4 + 1) l) (33 + k * 4 + 2) c) (33 + k * 4 + 3) false)), .bool true]) ∧ Below w.heap.size w w' := by
  have hk0 := Blk.new w 67 0 27 u
  have HB0 := hidI (Below.alloc (Below.refl w.heap.size w) (Nat.le_refl _) (.cells (arr 67 0 u) 27))
  have hs0 := HB0.out.size
  have cr := fun W => reg_d k hk W
  rw [← hx] at cr
  have n0 : (x == 0) = false := by simp; omega
  have n2 : (x == 2) = false := by simp; omega
  have hkl : (k : Int) < 8 := by omega
  have hkp : (0 : Int) ≤ k := by omega
  have hl : (if 128 < l then 128 else l) = l := if_neg (by omega)
  have hc : (if 2 < c then 2 else c) = c := if_neg (by omega)
  clear hx
  go_enter Try.func10, Try.ntmps10
  go_wp2_with (first
    | (go_at_call 18; refine (cr _).mono ?_; rintro e w' ⟨rfl, rfl⟩)
    | ((with_reducible refine g_alloc 27 ?_ rfl); have _t := HB0; refine st_alloc27 (by rfl) rfl ?_; have hz1 := Blk.new1 w (.cells (arr 67 0 u) 27) 67 0 27 az; have hk1 := hk0.alloc (.cells (arr 67 0 az) 27); have HB1 := hidI (HB0.out.alloc HB0.out.size (.cells (arr 67 0 az) 27)); clear HB0 hk0; try go_simp)
    | ((with_reducible refine g_store 3 ?_ rfl); have _t := HB1; refine st_setF (j := 33 + k * 4 + 1) (by rfl) rfl rfl rfl hk1 (by omega) (by omega) ?_; intro w2 hk2 hu2; have hz2 := hz1.upd hu2 (by omega); have HB2 := hidI (HB1.out.trans (hu2.below (by omega))); clear hk1 hz1 HB1 hu2)
    | ((with_reducible refine g_store 3 ?_ rfl); have _t := HB2; refine st_setF (j := 33 + k * 4 + 2) (by rfl) rfl rfl rfl hk2 (by omega) (by omega) ?_; intro w3 hk3 hu3; have hz3 := hz2.upd hu3 (by omega); have HB3 := hidI (HB2.out.trans (hu3.below (by omega))); clear hk2 hz2 HB2 hu3)
    | ((with_reducible refine g_store 4 ?_ rfl); have _t := HB3; refine st_setX (j := 33 + k * 4 + 3) (by rfl) rfl rfl rfl hk3 (by omega) (by omega) ?_; intro w4 hk4 hu4; have hz4 := hz3.upd hu4 (by omega); have HB4 := hidI (HB3.out.trans (hu4.below (by omega))); clear hk3 hz3 HB3 hu4)
    | ((with_reducible refine g_load 27 ?_ rfl); refine st_load27 (by rfl) rfl rfl hk4 (by omega) (by omega) ?_; rw [sh_zero])
    | ((with_reducible refine g_store 27 ?_ rfl); refine st_store27 (by rfl) rfl rfl rfl hz4 (by omega) (by omega) ?_; intro w5 hz5 hu5; have HB5 := hidI (HB4.out.trans (hu5.below (by omega))); clear hz4 HB4 hu5))
  exact bodyPost_ret (hz5.res2 (v := .bool true) rfl _ rfl rfl) rfl ⟨by rw [up_arr], HB5.out⟩
end Go.Proofs.Ytmlhdepemeodkaa.A
