/- emulatorref09.Right answers whether a unit is within its bounds. No condition. -/
import Derived.Test.YtmlhdepemeodkaaWr
namespace Go.Proofs.Ytmlhdepemeodkaa.A
open Go Go.RowKit
set_option linter.unusedSimpArgs false
set_option linter.unusedVariables false
open Classical in
set_option maxHeartbeats 8000000 in
set_option maxRecDepth 100000 in
theorem rright_v (u : Ar) (w : World) : Calls Try.prog 5 #[.agg (arr 67 0 u)] w fun e w' => e = .returned (.bool (decide (RU u))) ∧ Below w.heap.size w w' := by
  have hk0 := Blk.new w 67 0 27 u
  have HB0 := hidI (Below.alloc (Below.refl w.heap.size w) (Nat.le_refl _) (.cells (arr 67 0 u) 27))
  have bad : Hid (∀ k, k < 16 → ¬ VP u k → decide (RU u) = false) := fun k hk h => decide_eq_false (fun hR => h (hR.1 k hk))
  go_enter Try.func5, Try.ntmps5
  go_wp2
  go_loopw [3] (fun x wr => ∃ m : Nat, m ≤ 2 ∧ x = .int .i64 m ∧ Blk wr w.heap.size 67 0 27 u ∧ Below w.heap.size w wr ∧ Hid (∀ k, k < m * 8 → VP u k)) (fun x _ => 2 - (intOf x).toNat)
  case atStart => exact ⟨0, by omega, rfl, hk0, HB0.out, fun k hk => by omega⟩
  case round =>
    clear hk0 HB0
    obtain ⟨m, hm, rfl, hblk, hbel, hv⟩ := hrel
    have HB := hidI hbel; clear hbel
    have hlb := hblk.lt
    by_cases hm2 : m < 2
    · have hlt : (m : Int) < 2 := by omega
      have hm0 : (0 : Int) ≤ m := by omega
      go_wp2
      go_loopw [4] (fun x wr => ∃ j : Nat, j ≤ 8 ∧ x = .int .i64 j ∧ Blk wr w.heap.size 67 0 27 u ∧ Below w.heap.size w wr ∧ Hid (∀ k, k < m * 8 + j → VP u k)) (fun x _ => 8 - (intOf x).toNat)
      case atStart => exact ⟨0, by omega, rfl, hblk, HB.out, hv⟩
      case round =>
        clear hblk HB hlb hv
        obtain ⟨j, hj, rfl, hblk, hbel, hv⟩ := hrel
        have HB := hidI hbel; clear hbel
        have hlb := hblk.lt
        by_cases hj8 : j < 8
        · have hjt : (j : Int) < 8 := by omega
          have hj0 : (0 : Int) ≤ j := by omega
          have hb := bad.out (m * 8 + j) (by omega)
          have hVE : VP u (m * 8 + j) ↔ VP u (m * 8 + j) := Iff.rfl
          conv at hVE => rhs; unfold VP; rw [show 1 + (m * 8 + j) * 4 = 1 + m * 32 + j * 4 by omega]
          obtain ⟨g, hg⟩ : ∃ g, sh u (1 + m * 32 + j * 4) = g := ⟨_, rfl⟩
          have e1 : u.f (1 + m * 32 + j * 4) = g.f 0 := by rw [← hg]; rfl
          have e2 : u.f (1 + m * 32 + j * 4 + 1) = g.f 1 := by rw [← hg]; rfl
          have e3 : u.f (1 + m * 32 + j * 4 + 2) = g.f 2 := by rw [← hg]; rfl
          rw [e1, e2, e3] at hVE
          have HG := hidI hg
          have HVE := hidI hVE
          have HBAD := hidI hb
          clear e1 e2 e3 hg hVE hb
          by_cases q0 : g.f 0 < 0
          · have HF : Hid (decide (RU u) = false) := HBAD.out (fun h => by have := HVE.out.1 h; omega)
            go_wp2_with (first
              | ((with_reducible refine g_load 23 ?_ rfl); have _t := HB; refine st_load23 (off := 1 + m * 32 + j * 4) (by rfl) rfl rfl hblk (by omega) (by omega) ?_; rw [HG.out])
              | ((with_reducible refine g_alloc 23 ?_ rfl); have _t := HB; refine st_alloc23 (by rfl) rfl ?_; have hp1 := Blk.new wr 4 1 23 az; have hb1 := hblk.alloc (.cells (arr 4 1 az) 23); have hs0 := HB.out.size; have HB1 := hidI (HB.out.alloc HB.out.size (.cells (arr 4 1 az) 23)); clear HB hblk; try go_simp)
              | ((with_reducible refine g_store 23 ?_ rfl); refine st_store23 (by rfl) rfl rfl rfl hp1 (by omega) (by omega) ?_; intro w2 hp2 hu2; have hb2 := hb1.upd hu2 (by omega); have HB2 := hidI (HB1.out.trans (hu2.below (by omega))); have d0 := hp2.whole.int 0 (by decide) (by decide); have d1 := hp2.whole.int 1 (by decide) (by decide); have d2 := hp2.whole.int 2 (by decide) (by decide); clear hp1 HB1 hu2 hb1 hp2))
            go_ret
            exact ⟨by rw [HF.out]; rfl, HB2.out⟩
          by_cases q1 : 4095 < g.f 0
          · have HF : Hid (decide (RU u) = false) := HBAD.out (fun h => by have := HVE.out.1 h; omega)
            go_wp2_with (first
              | ((with_reducible refine g_load 23 ?_ rfl); have _t := HB; refine st_load23 (off := 1 + m * 32 + j * 4) (by rfl) rfl rfl hblk (by omega) (by omega) ?_; rw [HG.out])
              | ((with_reducible refine g_alloc 23 ?_ rfl); have _t := HB; refine st_alloc23 (by rfl) rfl ?_; have hp1 := Blk.new wr 4 1 23 az; have hb1 := hblk.alloc (.cells (arr 4 1 az) 23); have hs0 := HB.out.size; have HB1 := hidI (HB.out.alloc HB.out.size (.cells (arr 4 1 az) 23)); clear HB hblk; try go_simp)
              | ((with_reducible refine g_store 23 ?_ rfl); refine st_store23 (by rfl) rfl rfl rfl hp1 (by omega) (by omega) ?_; intro w2 hp2 hu2; have hb2 := hb1.upd hu2 (by omega); have HB2 := hidI (HB1.out.trans (hu2.below (by omega))); have d0 := hp2.whole.int 0 (by decide) (by decide); have d1 := hp2.whole.int 1 (by decide) (by decide); have d2 := hp2.whole.int 2 (by decide) (by decide); clear hp1 HB1 hu2 hb1 hp2))
            go_ret
            exact ⟨by rw [HF.out]; rfl, HB2.out⟩
          by_cases q2 : g.f 1 < 0
          · have HF : Hid (decide (RU u) = false) := HBAD.out (fun h => by have := HVE.out.1 h; omega)
            go_wp2_with (first
              | ((with_reducible refine g_load 23 ?_ rfl); have _t := HB; refine st_load23 (off := 1 + m * 32 + j * 4) (by rfl) rfl rfl hblk (by omega) (by omega) ?_; rw [HG.out])
              | ((with_reducible refine g_alloc 23 ?_ rfl); have _t := HB; refine st_alloc23 (by rfl) rfl ?_; have hp1 := Blk.new wr 4 1 23 az; have hb1 := hblk.alloc (.cells (arr 4 1 az) 23); have hs0 := HB.out.size; have HB1 := hidI (HB.out.alloc HB.out.size (.cells (arr 4 1 az) 23)); clear HB hblk; try go_simp)
              | ((with_reducible refine g_store 23 ?_ rfl); refine st_store23 (by rfl) rfl rfl rfl hp1 (by omega) (by omega) ?_; intro w2 hp2 hu2; have hb2 := hb1.upd hu2 (by omega); have HB2 := hidI (HB1.out.trans (hu2.below (by omega))); have d0 := hp2.whole.int 0 (by decide) (by decide); have d1 := hp2.whole.int 1 (by decide) (by decide); have d2 := hp2.whole.int 2 (by decide) (by decide); clear hp1 HB1 hu2 hb1 hp2))
            go_ret
            exact ⟨by rw [HF.out]; rfl, HB2.out⟩
          by_cases q3 : 128 < g.f 1
          · have HF : Hid (decide (RU u) = false) := HBAD.out (fun h => by have := HVE.out.1 h; omega)
            go_wp2_with (first
              | ((with_reducible refine g_load 23 ?_ rfl); have _t := HB; refine st_load23 (off := 1 + m * 32 + j * 4) (by rfl) rfl rfl hblk (by omega) (by omega) ?_; rw [HG.out])
              | ((with_reducible refine g_alloc 23 ?_ rfl); have _t := HB; refine st_alloc23 (by rfl) rfl ?_; have hp1 := Blk.new wr 4 1 23 az; have hb1 := hblk.alloc (.cells (arr 4 1 az) 23); have hs0 := HB.out.size; have HB1 := hidI (HB.out.alloc HB.out.size (.cells (arr 4 1 az) 23)); clear HB hblk; try go_simp)
              | ((with_reducible refine g_store 23 ?_ rfl); refine st_store23 (by rfl) rfl rfl rfl hp1 (by omega) (by omega) ?_; intro w2 hp2 hu2; have hb2 := hb1.upd hu2 (by omega); have HB2 := hidI (HB1.out.trans (hu2.below (by omega))); have d0 := hp2.whole.int 0 (by decide) (by decide); have d1 := hp2.whole.int 1 (by decide) (by decide); have d2 := hp2.whole.int 2 (by decide) (by decide); clear hp1 HB1 hu2 hb1 hp2))
            go_ret
            exact ⟨by rw [HF.out]; rfl, HB2.out⟩
          by_cases q4 : g.f 2 < 0
          · have HF : Hid (decide (RU u) = false) := HBAD.out (fun h => by have := HVE.out.1 h; omega)
            go_wp2_with (first
              | ((with_reducible refine g_load 23 ?_ rfl); have _t := HB; refine st_load23 (off := 1 + m * 32 + j * 4) (by rfl) rfl rfl hblk (by omega) (by omega) ?_; rw [HG.out])
              | ((with_reducible refine g_alloc 23 ?_ rfl); have _t := HB; refine st_alloc23 (by rfl) rfl ?_; have hp1 := Blk.new wr 4 1 23 az; have hb1 := hblk.alloc (.cells (arr 4 1 az) 23); have hs0 := HB.out.size; have HB1 := hidI (HB.out.alloc HB.out.size (.cells (arr 4 1 az) 23)); clear HB hblk; try go_simp)
              | ((with_reducible refine g_store 23 ?_ rfl); refine st_store23 (by rfl) rfl rfl rfl hp1 (by omega) (by omega) ?_; intro w2 hp2 hu2; have hb2 := hb1.upd hu2 (by omega); have HB2 := hidI (HB1.out.trans (hu2.below (by omega))); have d0 := hp2.whole.int 0 (by decide) (by decide); have d1 := hp2.whole.int 1 (by decide) (by decide); have d2 := hp2.whole.int 2 (by decide) (by decide); clear hp1 HB1 hu2 hb1 hp2))
            go_ret
            exact ⟨by rw [HF.out]; rfl, HB2.out⟩
          by_cases q5 : 2 < g.f 2
          · have HF : Hid (decide (RU u) = false) := HBAD.out (fun h => by have := HVE.out.1 h; omega)
            go_wp2_with (first
              | ((with_reducible refine g_load 23 ?_ rfl); have _t := HB; refine st_load23 (off := 1 + m * 32 + j * 4) (by rfl) rfl rfl hblk (by omega) (by omega) ?_; rw [HG.out])
              | ((with_reducible refine g_alloc 23 ?_ rfl); have _t := HB; refine st_alloc23 (by rfl) rfl ?_; have hp1 := Blk.new wr 4 1 23 az; have hb1 := hblk.alloc (.cells (arr 4 1 az) 23); have hs0 := HB.out.size; have HB1 := hidI (HB.out.alloc HB.out.size (.cells (arr 4 1 az) 23)); clear HB hblk; try go_simp)
              | ((with_reducible refine g_store 23 ?_ rfl); refine st_store23 (by rfl) rfl rfl rfl hp1 (by omega) (by omega) ?_; intro w2 hp2 hu2; have hb2 := hb1.upd hu2 (by omega); have HB2 := hidI (HB1.out.trans (hu2.below (by omega))); have d0 := hp2.whole.int 0 (by decide) (by decide); have d1 := hp2.whole.int 1 (by decide) (by decide); have d2 := hp2.whole.int 2 (by decide) (by decide); clear hp1 HB1 hu2 hb1 hp2))
            go_ret
            exact ⟨by rw [HF.out]; rfl, HB2.out⟩
          go_wp2_with (first
            | ((with_reducible refine g_load 23 ?_ rfl); have _t := HB; refine st_load23 (off := 1 + m * 32 + j * 4) (by rfl) rfl rfl hblk (by omega) (by omega) ?_; rw [HG.out])
            | ((with_reducible refine g_alloc 23 ?_ rfl); have _t := HB; refine st_alloc23 (by rfl) rfl ?_; have hp1 := Blk.new wr 4 1 23 az; have hb1 := hblk.alloc (.cells (arr 4 1 az) 23); have hs0 := HB.out.size; have HB1 := hidI (HB.out.alloc HB.out.size (.cells (arr 4 1 az) 23)); clear HB hblk; try go_simp)
            | ((with_reducible refine g_store 23 ?_ rfl); refine st_store23 (by rfl) rfl rfl rfl hp1 (by omega) (by omega) ?_; intro w2 hp2 hu2; have hb2 := hb1.upd hu2 (by omega); have HB2 := hidI (HB1.out.trans (hu2.below (by omega))); have d0 := hp2.whole.int 0 (by decide) (by decide); have d1 := hp2.whole.int 1 (by decide) (by decide); have d2 := hp2.whole.int 2 (by decide) (by decide); clear hp1 HB1 hu2 hb1 hp2))
          go_roundw
          case measure => simp [intOf]; omega
          case rel => exact ⟨j + 1, by omega, by go_num, hb2, HB2.out, fun k hk => by
            by_cases e : k < m * 8 + j
            · exact hv k e
            · obtain rfl : k = m * 8 + j := by omega
              exact HVE.out.2 (by omega)⟩
        · obtain rfl : j = 8 := by omega
          rw [show ((8 : Nat) : Int) = 8 from rfl]
          go_wp2
          go_roundw
          case measure => simp [intOf]; omega
          case rel => exact ⟨m + 1, by omega, by go_num, hblk, HB.out, fun k hk => hv k (by omega)⟩
    · obtain rfl : m = 2 := by omega
      rw [show ((2 : Nat) : Int) = 2 from rfl]
      have d0 := hblk.int 65 (by decide) (by decide)
      have d1 := hblk.int 66 (by decide) (by decide)
      have HA : Hid (∀ k, k < 16 → VP u k) := fun k hk => hv k (by omega)
      clear hv bad
      by_cases s0 : 0 ≤ u.f 65
      rotate_left
      · have HF : Hid (decide (RU u) = false) := decide_eq_false (fun hR => by have := hR.2; omega)
        go_wp2
        go_ret
        exact ⟨by rw [HF.out]; rfl, HB.out⟩
      by_cases s1 : u.f 65 ≤ 3
      rotate_left
      · have HF : Hid (decide (RU u) = false) := decide_eq_false (fun hR => by have := hR.2; omega)
        go_wp2
        go_ret
        exact ⟨by rw [HF.out]; rfl, HB.out⟩
      by_cases s2 : 0 ≤ u.f 66
      rotate_left
      · have HF : Hid (decide (RU u) = false) := decide_eq_false (fun hR => by have := hR.2; omega)
        go_wp2
        go_ret
        exact ⟨by rw [HF.out]; rfl, HB.out⟩
      by_cases s3 : u.f 66 < 65536
      rotate_left
      · have HF : Hid (decide (RU u) = false) := decide_eq_false (fun hR => by have := hR.2; omega)
        go_wp2
        go_ret
        exact ⟨by rw [HF.out]; rfl, HB.out⟩
      have HF : Hid (decide (RU u) = true) := decide_eq_true ⟨HA.out, ⟨s0, s1⟩, s2, by omega⟩
      go_wp2
      go_ret
      exact ⟨by rw [HF.out]; rfl, HB.out⟩
end Go.Proofs.Ytmlhdepemeodkaa.A
