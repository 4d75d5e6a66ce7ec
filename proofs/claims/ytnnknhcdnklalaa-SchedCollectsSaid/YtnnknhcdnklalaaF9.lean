/- The reference's Exit: the table that each call returns. No condition. -/
import Derived.Test.YtnnknhcdnklalaaF8
namespace Go.Proofs.Ytnnknhcdnklalaa.A
open Go Go.RowKit
set_option linter.unusedSimpArgs false
set_option linter.unusedVariables false
set_option maxHeartbeats 4000000 in
theorem rexit_v (t : Nat → Pr) (index status : Int) (w : World) : Calls Try.prog 15 #[.agg (tcs t), .int .i64 index, .int .i64 status] w fun e w' => e = .returned (.agg (tcs (exitT t index status))) ∧ Below w.heap.size w w' := by
  have hk0 := (Blk.new w t).alloc (.cells (tcs tz) 29)
  have hz0 : Blk ((w.alloc (.cells (tcs t) 29)).alloc (.cells (tcs tz) 29)) (w.heap.size + 1) tz := heap_alloc2_new _ _ _
  have hb0 := (Below.alloc (Below.refl w.heap.size w) (Nat.le_refl _) (.cells (tcs t) 29)).alloc (by simp) (.cells (tcs tz) 29)
  by_cases hn : index < 0
  · have HS : Hid (exitT t index status = t) := by unfold Hid exitT; rw [if_neg (by omega)]
    have hBw := hidI hb0; clear hb0
    have hd : decide (index < 0) = true := by simpa using hn
    clear hn
    go_enter Try.func15, Try.ntmps15
    go_wp2_with (first
      | (refine st_alloc29 (by rfl) rfl ?_)
      | (refine st_load29 (by rfl) rfl rfl hk0 ?_)
      | (refine st_store29 (by rfl) rfl rfl rfl hz0 ?_; intro w2 hz2 hu2))
    exact bodyPost_ret (hz2.res rfl _ rfl) rfl ⟨by rw [HS.out], hBw.out.trans (hu2.below (Nat.le_succ _))⟩
  by_cases hn8 : index ≥ 8
  · have HS : Hid (exitT t index status = t) := by unfold Hid exitT; rw [if_neg (by omega)]
    have hBw := hidI hb0; clear hb0
    have hd : decide (index < 0) = false := by simpa using hn
    have hd8 : decide (8 ≤ index) = true := by simpa using hn8
    have hn' : 0 ≤ index := by omega
    go_enter Try.func15, Try.ntmps15
    go_wp2_with (first
      | (refine st_alloc29 (by rfl) rfl ?_)
      | (refine st_load29 (by rfl) rfl rfl hk0 ?_)
      | (refine st_store29 (by rfl) rfl rfl rfl hz0 ?_; intro w2 hz2 hu2))
    exact bodyPost_ret (hz2.res rfl _ rfl) rfl ⟨by rw [HS.out], hBw.out.trans (hu2.below (Nat.le_succ _))⟩
  obtain ⟨i, rfl⟩ : ∃ i : Nat, index = i := ⟨index.toNat, by omega⟩
  have hi8 : i < 8 := by omega
  have hi : (i : Int) < 8 := by omega
  have hd : decide ((i : Int) < 0) = false := by simp
  have hd8 : decide ((8 : Int) ≤ i) = false := by simp; omega
  clear hn hn8
  have c2 := hk0.int i 2 hi8 (by decide) (by decide)
  cases h0 : ((t i).f 2 == 0)
  rotate_left
  · have HS : Hid (exitT t i status = t) := by unfold Hid exitT; rw [if_neg (by rintro ⟨_, _, h1, h2⟩; rw [Int.toNat_natCast] at h1 h2; simp [h1] at h0)]
    have hBw := hidI hb0; clear hb0
    go_enter Try.func15, Try.ntmps15
    go_wp2_with (first
      | (refine st_alloc29 (by rfl) rfl ?_)
      | (refine st_load29 (by rfl) rfl rfl hk0 ?_)
      | (refine st_store29 (by rfl) rfl rfl rfl hz0 ?_; intro w2 hz2 hu2))
    exact bodyPost_ret (hz2.res rfl _ rfl) rfl ⟨by rw [HS.out], hBw.out.trans (hu2.below (Nat.le_succ _))⟩
  cases h3 : ((t i).f 2 == 3)
  rotate_left
  · have HS : Hid (exitT t i status = t) := by unfold Hid exitT; rw [if_neg (by rintro ⟨_, _, h1, h2⟩; rw [Int.toNat_natCast] at h1 h2; simp [h2] at h3)]
    have hBw := hidI hb0; clear hb0
    go_enter Try.func15, Try.ntmps15
    go_wp2_with (first
      | (refine st_alloc29 (by rfl) rfl ?_)
      | (refine st_load29 (by rfl) rfl rfl hk0 ?_)
      | (refine st_store29 (by rfl) rfl rfl rfl hz0 ?_; intro w2 hz2 hu2))
    exact bodyPost_ret (hz2.res rfl _ rfl) rfl ⟨by rw [HS.out], hBw.out.trans (hu2.below (Nat.le_succ _))⟩
  have HS : Hid (exitT t i status = exitG t i (Go.bits .and .i64 status 255)) := by
    unfold Hid exitT; rw [if_pos ⟨by omega, by omega, by rw [Int.toNat_natCast]; simpa using h0, by rw [Int.toNat_natCast]; simpa using h3⟩]; rfl
  have e0 := hk0.int0 i hi8
  have e1 := hk0.int i 1 hi8 (by decide) (by decide)
  generalize hpid : (t i).f 0 = pid at e0
  generalize hpar : (t i).f 1 = par at e1
  have HPI := hidI hpid; clear hpid
  have HPA := hidI hpar; clear hpar
  have hB2 := hidI hb0; clear hb0
  go_enter Try.func15, Try.ntmps15
  go_wp2_with (first
    | (refine st_alloc29 (by rfl) rfl ?_)
    | (refine st_buildZ (by rfl) rfl rfl rfl rfl rfl ?_)
    | (refine st_store28 (by rfl) rfl rfl rfl hk0 hi8 ?_; intro w1 hk1 hu1))
  have hz1 := hu1.blk hz0 (by omega)
  have hBw1 := hidI (hB2.out.trans (hu1.below (Nat.le_refl _)))
  clear hk0 hz0 hB2 hu1 c2 e0 e1 h0 h3
  generalize ht1 : updT t i (zomb pid par (Go.bits .and .i64 status 255)) = t1 at *
  have HT1 := hidI ht1; clear ht1
  go_loopw [9] (fun v wr => ∃ k : Nat, k ≤ 8 ∧ v = .int .i64 k ∧ Blk wr w.heap.size (mapN (exF i pid) t1 k) ∧ Blk wr (w.heap.size + 1) tz ∧ Below w.heap.size w wr) (fun v _ => 8 - (intOf v).toNat)
  case atStart => exact ⟨0, by omega, rfl, by rw [mapN_zero]; exact hk1, hz1, hBw1.out⟩
  case round =>
    obtain ⟨k, hk, rfl, hblk, hz, hbel⟩ := hrel
    have HB := hidI hbel; clear hbel
    by_cases hk8 : k < 8
    · have hlt : (k : Int) < 8 := by omega
      have c2 := hblk.int k 2 hk8 (by decide) (by decide)
      have c1 := hblk.int k 1 hk8 (by decide) (by decide)
      rw [mapN_at] at c2 c1
      by_cases hki : k = i
      · have hd : ((k : Int) != (i : Int)) = false := by simp [hki]
        have HE := hidI (mapN_keep (exF i pid) t1 k (by simp [exF, hki])); clear hki
        go_wp2
        go_roundw
        case measure => simp [intOf]; omega
        case rel => exact ⟨k + 1, by omega, by go_num, by rw [← HE.out]; exact hblk, hz, HB.out⟩
      · have hd : ((k : Int) != (i : Int)) = true := by simp; omega
        have HK := hidI hki; clear hki
        cases h1 : ((t1 k).f 2 != 0)
        · have HE := hidI (mapN_keep (exF i pid) t1 k (by have : (t1 k).f 2 = 0 := (by simpa using h1); simp [exF, this]))
          go_wp2
          go_roundw
          case measure => simp [intOf]; omega
          case rel => exact ⟨k + 1, by omega, by go_num, by rw [← HE.out]; exact hblk, hz, HB.out⟩
        · cases h2 : ((t1 k).f 1 == pid)
          · have HE := hidI (mapN_keep (exF i pid) t1 k (by have : ¬ (t1 k).f 1 = pid := (by simpa using h2); simp [exF, this]))
            go_wp2
            go_roundw
            case measure => simp [intOf]; omega
            case rel => exact ⟨k + 1, by omega, by go_num, by rw [← HE.out]; exact hblk, hz, HB.out⟩
          · have HE := hidI (mapN_upd (exF i pid) t1 k)
            have HC := hidI (show k ≠ i ∧ (t1 k).f 2 ≠ 0 ∧ (t1 k).f 1 = pid from ⟨HK.out, by simpa using h1, by simpa using h2⟩)
            by_cases h3 : (t1 k).f 2 = 3
            · have HF := hidI (show exF i pid k (t1 k) = zp by unfold exF; rw [if_pos HC.out, if_pos h3])
              rw [h3] at c2 h1
              have HH := hidI h3; clear h3
              go_wp2_with (first
                | (refine st_build28 (by rfl) rfl ?_)
                | (refine st_store28 (by rfl) rfl rfl rfl hblk hk8 ?_; intro w2 hb2 hu2))
              go_roundw
              case measure => simp [intOf]; omega
              case rel => exact ⟨k + 1, by omega, by go_num, by rw [← HE.out, HF.out]; exact hb2, hu2.blk hz (by omega), HB.out.trans (hu2.below (Nat.le_refl _))⟩
            · have HF := hidI (show exF i pid k (t1 k) = setf (t1 k) 1 0 by unfold exF; rw [if_pos HC.out, if_neg h3])
              go_wp2_with (first
                | (refine st_field (n := 0) (j := 1) (k := k) (by rfl) rfl rfl rfl rfl hblk hk8 (by decide) (by decide) ?_; intro w2 hb2 hu2))
              rw [mapN_at] at hb2
              go_roundw
              case measure => simp [intOf]; omega
              case rel => exact ⟨k + 1, by omega, by go_num, by rw [← HE.out, HF.out]; exact hb2, hu2.blk hz (by omega), HB.out.trans (hu2.below (Nat.le_refl _))⟩
    · obtain rfl : k = 8 := by omega
      rw [show ((8 : Nat) : Int) = 8 from rfl]
      generalize ht2 : mapN (exF i pid) t1 8 = t2 at *
      by_cases hp0 : par = 0
      · have HS2 : Hid (exitT t i status = updT t2 i zp) := by rw [Hid, HS.out, ← ht2]; unfold exitG; rw [HPA.out, HPI.out, HT1.out, if_pos hp0]
        subst hp0
        clear ht2
        go_wp2_with (first
          | (refine st_build28 (by rfl) rfl ?_)
          | (refine st_store28 (by rfl) rfl rfl rfl hblk hi8 ?_; intro w2 hb2 hu2; have hz2 := hu2.blk hz (by omega))
          | (refine st_load29 (by rfl) rfl rfl hb2 ?_)
          | (refine st_store29 (by rfl) rfl rfl rfl hz2 ?_; intro w3 hz3 hu3))
        exact bodyPost_ret (hz3.res rfl _ rfl) rfl ⟨by rw [HS2.out], (HB.out.trans (hu2.below (Nat.le_refl _))).trans (hu3.below (Nat.le_succ _))⟩
      · have HS2 : Hid (exitT t i status = mapN (wkF par) t2 8) := by rw [Hid, HS.out, ← ht2]; unfold exitG; rw [HPA.out, HPI.out, HT1.out, if_neg hp0]
        clear ht2
        have hpd : (par == 0) = false := by simpa using hp0
        clear hp0
        go_wp2
        go_loopw [10] (fun v wr => ∃ k : Nat, k ≤ 8 ∧ v = .int .i64 k ∧ Blk wr w.heap.size (mapN (wkF par) t2 k) ∧ Blk wr (w.heap.size + 1) tz ∧ Below w.heap.size w wr) (fun v _ => 8 - (intOf v).toNat)
        case atStart => exact ⟨0, by omega, rfl, by rw [mapN_zero]; exact hblk, hz, HB.out⟩
        case round =>
          clear hblk hz HB
          obtain ⟨k, hk, rfl, hblk, hz, hbel⟩ := hrel
          have HB := hidI hbel; clear hbel
          by_cases hk8 : k < 8
          · have hlt : (k : Int) < 8 := by omega
            have c2 := hblk.int k 2 hk8 (by decide) (by decide)
            have c25 := hblk.int k 25 hk8 (by decide) (by decide)
            have c0 := hblk.int0 k hk8
            rw [mapN_at] at c2 c25 c0
            cases h1 : ((t2 k).f 2 == 2)
            · have HE := hidI (mapN_keep (wkF par) t2 k (by have : ¬ (t2 k).f 2 = 2 := (by simpa using h1); simp [wkF, this]))
              go_wp2
              go_roundw
              case measure => simp [intOf]; omega
              case rel => exact ⟨k + 1, by omega, by go_num, by rw [← HE.out]; exact hblk, hz, HB.out⟩
            · cases h2 : ((t2 k).f 25 == 1)
              · have HE := hidI (mapN_keep (wkF par) t2 k (by have : ¬ (t2 k).f 25 = 1 := (by simpa using h2); simp [wkF, this]))
                go_wp2
                go_roundw
                case measure => simp [intOf]; omega
                case rel => exact ⟨k + 1, by omega, by go_num, by rw [← HE.out]; exact hblk, hz, HB.out⟩
              · cases h3 : ((t2 k).f 0 == par)
                · have HE := hidI (mapN_keep (wkF par) t2 k (by have : ¬ (t2 k).f 0 = par := (by simpa using h3); simp [wkF, this]))
                  go_wp2
                  go_roundw
                  case measure => simp [intOf]; omega
                  case rel => exact ⟨k + 1, by omega, by go_num, by rw [← HE.out]; exact hblk, hz, HB.out⟩
                · have HE := hidI (mapN_upd (wkF par) t2 k)
                  have HF := hidI (show wkF par k (t2 k) = rdy (t2 k) by unfold wkF; rw [if_pos ⟨by simpa using h1, by simpa using h2, by simpa using h3⟩])
                  have hrc := rready_v (t2 k) wr
                  go_wp2_with (first
                    | (refine st_load28 (by rfl) rfl rfl hblk hk8 ?_; rw [mapN_at])
                    | (go_at_call 34; refine hrc.mono ?_; rintro e w4 ⟨rfl, hb4⟩; have hk4 := hblk.below hb4 hblk.lt; have hz4 := hz.below hb4 hz.lt)
                    | (refine st_store28 (by rfl) rfl rfl rfl hk4 hk8 ?_; intro w2 hb2 hu2))
                  go_roundw
                  case measure => simp [intOf]; omega
                  case rel => exact ⟨k + 1, by omega, by go_num, by rw [← HE.out, HF.out]; exact hb2, hu2.blk hz4 (by omega), (HB.out.trans (hb4.mono HB.out.size)).trans (hu2.below (Nat.le_refl _))⟩
          · obtain rfl : k = 8 := by omega
            go_wp2_with (first
              | (refine st_load29 (by rfl) rfl rfl hblk ?_)
              | (refine st_store29 (by rfl) rfl rfl rfl hz ?_; intro w2 hz2 hu2))
            exact bodyPost_ret (hz2.res rfl _ rfl) rfl ⟨by rw [HS2.out], HB.out.trans (hu2.below (Nat.le_succ _))⟩
end Go.Proofs.Ytnnknhcdnklalaa.A
