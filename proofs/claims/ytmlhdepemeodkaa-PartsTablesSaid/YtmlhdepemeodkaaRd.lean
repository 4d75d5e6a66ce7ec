/- mmu.Read at the registers of the pages of user mode: what it answers. Condition: the page has not been written. -/
import Derived.Test.YtmlhdepemeodkaaMap
namespace Go.Proofs.Ytmlhdepemeodkaa.A
open Go Go.RowKit
set_option linter.unusedSimpArgs false
set_option linter.unusedVariables false
theorem Blk.whole {w : World} {b n p : Nat} {t : TypeId} {u d : Ar} (h : Blk w b n p t (up u 0 n d)) : Blk w b n p t d := by
  unfold Blk at *; rw [up_arr] at h; exact h
set_option maxHeartbeats 8000000 in
set_option maxRecDepth 100000 in
theorem read_b (u : Ar) (x : Int) (k : Nat) (hk : k < 8) (hx : x = 48 + 4 * (k : Int)) (w : World) : Calls Try.prog 9 #[.agg (arr 67 0 u), .int .i64 x] w fun e w' => e = .returned (.tuple #[.int .i64 ((sh u (33 + k * 4)).f 0), .bool true]) ∧ Below w.heap.size w w' := by
  have hk0 := Blk.new w 67 0 27 u
  have HB0 := hidI (Below.alloc (Below.refl w.heap.size w) (Nat.le_refl _) (.cells (arr 67 0 u) 27))
  have hs0 := HB0.out.size
  have cr := fun W => reg_b k hk W
  rw [← hx] at cr
  have n0 : (x == 0) = false := by simp; omega
  have n2 : (x == 2) = false := by simp; omega
  have hkl : (k : Int) < 8 := by omega
  have hkp : (0 : Int) ≤ k := by omega
  clear hx
  go_enter Try.func9, Try.ntmps9
  go_wp2_with (first
    | (go_at_call 18; refine (cr _).mono ?_; rintro e w' ⟨rfl, rfl⟩)
    | ((with_reducible refine g_load 23 ?_ rfl); have _t := HB0; refine st_load23 (off := 33 + k * 4) (by rfl) rfl rfl hk0 (by omega) (by omega) ?_)
    | ((with_reducible refine g_alloc 23 ?_ rfl); have _t := HB0; refine st_alloc23 (by rfl) rfl ?_; have hp1 := Blk.new1 w (.cells (arr 67 0 u) 27) 4 1 23 az; have HB1 := hidI (HB0.out.alloc HB0.out.size (.cells (arr 4 1 az) 23)); clear HB0 hk0; try go_simp)
    | ((with_reducible refine g_store 23 ?_ rfl); refine st_store23 (by rfl) rfl rfl rfl hp1 (by omega) (by omega) ?_; intro w3 hp3 hu3; have HB3 := hidI (HB1.out.trans (hu3.below (by omega))); have d0 := hp3.whole.int 0 (by decide) (by decide); clear hp1 HB1 hu3 hp3))
  exact bodyPost_ret (v := .tuple #[.int .i64 ((sh u (33 + k * 4)).f 0), .bool true]) (by simp [results, Try.results9, go_sem]) rfl ⟨rfl, HB3.out⟩
def dw (g : Ar) : Int := Go.bits .or .i64 (Go.bits .or .i64 (g.f 1) (IntKind.i64.wrap (g.f 2 * 256))) 0
set_option maxHeartbeats 8000000 in
set_option maxRecDepth 100000 in
theorem read_d (u : Ar) (x : Int) (k : Nat) (hk : k < 8) (hx : x = 50 + 4 * (k : Int)) (hw : u.x (33 + k * 4 + 3) = false) (w : World) : Calls Try.prog 9 #[.agg (arr 67 0 u), .int .i64 x] w fun e w' => e = .returned (.tuple #[.int .i64 (dw (sh u (33 + k * 4))), .bool true]) ∧ Below w.heap.size w w' := by
  have hk0 := Blk.new w 67 0 27 u
  have HB0 := hidI (Below.alloc (Below.refl w.heap.size w) (Nat.le_refl _) (.cells (arr 67 0 u) 27))
  have hs0 := HB0.out.size
  have cr := fun W => reg_d k hk W
  rw [← hx] at cr
  have n0 : (x == 0) = false := by simp; omega
  have n2 : (x == 2) = false := by simp; omega
  have hkl : (k : Int) < 8 := by omega
  have hkp : (0 : Int) ≤ k := by omega
  clear hx
  go_enter Try.func9, Try.ntmps9
  go_wp2_with (first
    | (go_at_call 18; refine (cr _).mono ?_; rintro e w' ⟨rfl, rfl⟩)
    | ((with_reducible refine g_load 23 ?_ rfl); have _t := HB0; refine st_load23 (off := 33 + k * 4) (by rfl) rfl rfl hk0 (by omega) (by omega) ?_)
    | ((with_reducible refine g_alloc 23 ?_ rfl); have _t := HB0; refine st_alloc23 (by rfl) rfl ?_; have hp1 := Blk.new1 w (.cells (arr 67 0 u) 27) 4 1 23 az; have HB1 := hidI (HB0.out.alloc HB0.out.size (.cells (arr 4 1 az) 23)); clear HB0 hk0; try go_simp)
    | ((with_reducible refine g_store 23 ?_ rfl); refine st_store23 (by rfl) rfl rfl rfl hp1 (by omega) (by omega) ?_; intro w3 hp3 hu3; have HB3 := hidI (HB1.out.trans (hu3.below (by omega))); have HP3 := hidI hp3.whole; clear hp1 HB1 hu3 hp3))
  have hp3 := HP3.out
  have d1 := hp3.int 1 (by decide) (by decide)
  have d2 := hp3.int 2 (by decide) (by decide)
  have d3 := hp3.bool 3 (by decide) (by decide)
  have hg : (sh u (33 + k * 4)).x 3 = false := hw
  rw [hg] at d3
  obtain ⟨g, hgg⟩ : ∃ g, sh u (33 + k * 4) = g := ⟨_, rfl⟩
  rw [hgg] at d1 d2
  have HG := hidI hgg
  clear hg hgg
  go_region_held (fun wh => wh.cell? ⟨w.heap.size + 1, 1, none⟩ = some (.int .i64 (g.f 1)) ∧ wh.cell? ⟨w.heap.size + 1, 2, none⟩ = some (.int .i64 (g.f 2)) ∧ wh.cell? ⟨w.heap.size + 1, 3, none⟩ = some (.bool false)) (go_keep) (first | (go_at_call 17; refine (bit_v _ _ _).mono ?_; rintro e w' ⟨rfl, rfl⟩))
  go_wp2
  exact bodyPost_ret (v := .tuple #[.int .i64 (dw g), .bool true]) (by simp [results, Try.results9, go_sem, dw]) rfl ⟨by rw [HG.out], HB3.out.drew⟩
end Go.Proofs.Ytmlhdepemeodkaa.A
