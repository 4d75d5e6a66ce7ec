/- Wake of both packages, and the reference's ready: what each call returns. No condition. -/
import Derived.Test.YtnnknhcdnklalaaF6
namespace Go.Proofs.Ytnnknhcdnklalaa.A
open Go Go.RowKit
set_option linter.unusedSimpArgs false
set_option linter.unusedVariables false
/-- The first k entries have turned. -/
def mapN (f : Nat → Pr → Pr) (t : Nat → Pr) (k : Nat) : Nat → Pr := fun i => if i < k then f i (t i) else t i
theorem mapN_zero (f : Nat → Pr → Pr) (t : Nat → Pr) : mapN f t 0 = t := by funext i; simp [mapN]
theorem mapN_at (f : Nat → Pr → Pr) (t : Nat → Pr) (k : Nat) : mapN f t k k = t k := by simp [mapN]
theorem mapN_keep (f : Nat → Pr → Pr) (t : Nat → Pr) (k : Nat) (h : f k (t k) = t k) : mapN f t k = mapN f t (k + 1) := by
  funext i; show (if i < k then f i (t i) else t i) = (if i < k + 1 then f i (t i) else t i)
  by_cases e : i = k
  · subst e; rw [if_neg (by omega), if_pos (by omega), h]
  · by_cases l : i < k
    · rw [if_pos l, if_pos (by omega)]
    · rw [if_neg l, if_neg (by omega)]
theorem mapN_upd (f : Nat → Pr → Pr) (t : Nat → Pr) (k : Nat) : updT (mapN f t k) k (f k (t k)) = mapN f t (k + 1) := by
  funext i; show (if i = k then f k (t k) else (if i < k then f i (t i) else t i)) = (if i < k + 1 then f i (t i) else t i)
  by_cases e : i = k
  · subst e; rw [if_pos rfl, if_pos (by omega)]
  · rw [if_neg e]
    by_cases l : i < k
    · rw [if_pos l, if_pos (by omega)]
    · rw [if_neg l, if_neg (by omega)]
def isW (kind id : Int) (p : Pr) : Bool := (p.f 2 == 2 && p.f 25 == kind) && p.f 26 == id
def wakeF (kind id : Int) (i : Nat) (p : Pr) : Pr := if isW kind id p then rdy p else p
def wakeT (kind id : Int) (t : Nat → Pr) : Nat → Pr := mapN (wakeF kind id) t 8
theorem Blk.res {w : World} {b : Nat} {t : Nat → Pr} (h : Blk w b t) {fn : Func} {p : Tmp} (hf : fn.results = #[.cell p 29]) (tmps : Array Value) (hp : tmps.getD p undef = .pointer (some ⟨b, 0, none⟩)) : (results fn tmps).run Try.prog w = .ok (.agg (tcs t)) w :=
  results_cell_row hf tmps w b 29 (tcs t) (0, 0) _ hp h Try.underlying29 rfl (by rw [tcs_size]; exact info29)
theorem PBlk.res {w : World} {b : Nat} {q : Pr} (h : PBlk w b q) {fn : Func} {p : Tmp} (hf : fn.results = #[.cell p 28]) (tmps : Array Value) (hp : tmps.getD p undef = .pointer (some ⟨b, 0, none⟩)) : (results fn tmps).run Try.prog w = .ok (.agg (pcs q)) w :=
  results_cell_row hf tmps w b 28 (pcs q) (0, 0) _ hp h Try.underlying28 rfl (by rw [pcs_size]; exact info28)
set_option maxHeartbeats 1000000 in
theorem rready_v (p : Pr) (w : World) : Calls Try.prog 34 #[.agg (pcs p)] w fun e w' => e = .returned (.agg (pcs (rdy p))) ∧ Below w.heap.size w w' := by
  have hb := (PBlk.new w p).alloc (.cells (pcs zp) 28)
  have hz : PBlk ((w.alloc (.cells (pcs p) 28)).alloc (.cells (pcs zp) 28)) (w.heap.size + 1) zp := heap_alloc2_new _ _ _
  have hB := (Below.alloc (Below.refl w.heap.size w) (Nat.le_refl _) (.cells (pcs p) 28)).alloc (by simp) (.cells (pcs zp) 28)
  have hBx := hidI hB; clear hB
  go_enter Try.func34, Try.ntmps34
  go_wp2_with (first
    | (refine st_alloc28 (by rfl) rfl ?_)
    | (refine st_pfield (n := 1) (j := 2) (by rfl) rfl rfl rfl hb (by decide) (by decide) ?_; intro w1 hb1 hu1; have hz1 := hu1.pblk hz (by omega); clear hz hb)
    | (refine st_pfield (n := 0) (j := 25) (by rfl) rfl rfl rfl hb1 (by decide) (by decide) ?_; intro w2 hb2 hu2; have hz2 := hu2.pblk hz1 (by omega); clear hz1 hb1)
    | (refine st_pfield (n := 0) (j := 26) (by rfl) rfl rfl rfl hb2 (by decide) (by decide) ?_; intro w3 hb3 hu3; have hz3 := hu3.pblk hz2 (by omega); clear hz2 hb2)
    | (refine st_pload28 (by rfl) rfl rfl hb3 ?_)
    | (refine st_pstore28 (by rfl) rfl rfl rfl hz3 ?_; intro w4 hb4 hu4))
  exact bodyPost_ret (hb4.res rfl _ rfl) rfl ⟨rfl, (((hBx.out.trans (hu1.below (Nat.le_refl _))).trans (hu2.below (Nat.le_refl _))).trans (hu3.below (Nat.le_refl _))).trans (hu4.below (Nat.le_succ _))⟩
set_option maxHeartbeats 2000000 in
theorem wake_v (t : Nat → Pr) (kind id : Int) (w : World) : Calls Try.prog 26 #[.agg (tcs t), .int .i64 kind, .int .i64 id] w fun e w' => e = .returned (.agg (tcs (wakeT kind id t))) ∧ Below w.heap.size w w' := by
  have hk0 := (Blk.new w t).alloc (.cells (tcs tz) 29)
  have hz0 : Blk ((w.alloc (.cells (tcs t) 29)).alloc (.cells (tcs tz) 29)) (w.heap.size + 1) tz := heap_alloc2_new _ _ _
  have hb0 := (Below.alloc (Below.refl w.heap.size w) (Nat.le_refl _) (.cells (tcs t) 29)).alloc (by simp) (.cells (tcs tz) 29)
  go_enter Try.func26, Try.ntmps26
  go_wp2_with (first | (refine st_alloc29 (by rfl) rfl ?_))
  go_loopw [9] (fun v wr => ∃ k : Nat, k ≤ 8 ∧ v = .int .i64 k ∧ Blk wr w.heap.size (mapN (wakeF kind id) t k) ∧ Blk wr (w.heap.size + 1) tz ∧ Below w.heap.size w wr) (fun v _ => 8 - (intOf v).toNat)
  case atStart => exact ⟨0, by omega, rfl, by rw [mapN_zero]; exact hk0, hz0, hb0⟩
  case round =>
    obtain ⟨k, hk, rfl, hblk, hz, hbel⟩ := hrel
    by_cases hk8 : k < 8
    · have hlt : (k : Int) < 8 := by omega
      have c2 := hblk.int k 2 hk8 (by decide) (by decide)
      have c25 := hblk.int k 25 hk8 (by decide) (by decide)
      have c26 := hblk.int k 26 hk8 (by decide) (by decide)
      rw [mapN_at] at c2 c25 c26
      have HB := hidI hbel; clear hbel
      cases h1 : ((t k).f 2 == 2)
      · have HE := hidI (mapN_keep (wakeF kind id) t k (by simp [wakeF, isW, h1]))
        go_wp2
        go_roundw
        case measure => simp [intOf]; omega
        case rel => exact ⟨k + 1, by omega, by go_num, by rw [← HE.out]; exact hblk, hz, HB.out⟩
      · cases h2 : ((t k).f 25 == kind)
        · have HE := hidI (mapN_keep (wakeF kind id) t k (by simp [wakeF, isW, h2]))
          go_wp2
          go_roundw
          case measure => simp [intOf]; omega
          case rel => exact ⟨k + 1, by omega, by go_num, by rw [← HE.out]; exact hblk, hz, HB.out⟩
        · cases h3 : ((t k).f 26 == id)
          · have HE := hidI (mapN_keep (wakeF kind id) t k (by simp [wakeF, isW, h3]))
            go_wp2
            go_roundw
            case measure => simp [intOf]; omega
            case rel => exact ⟨k + 1, by omega, by go_num, by rw [← HE.out]; exact hblk, hz, HB.out⟩
          · have HE := hidI (mapN_upd (wakeF kind id) t k)
            have HF := hidI (show wakeF kind id k (t k) = rdy (t k) by simp [wakeF, isW, h1, h2, h3])
            have hrc := pready_v (mapN (wakeF kind id) t k) w.heap.size k hk8 wr hblk
            rw [mapN_at] at hrc
            go_wp2_with (first | (go_at_call 33; refine hrc.mono ?_; rintro e w1 ⟨rfl, hb1, hu1⟩))
            go_roundw
            case measure => simp [intOf]; omega
            case rel => exact ⟨k + 1, by omega, by go_num, by rw [← HE.out, HF.out]; exact hb1, hu1.blk hz (by omega), HB.out.trans (hu1.below (Nat.le_refl _))⟩
    · obtain rfl : k = 8 := by omega
      have HB := hidI hbel; clear hbel
      go_wp2_with (first | (refine st_load29 (by rfl) rfl rfl hblk ?_) | (refine st_store29 (by rfl) rfl rfl rfl hz ?_; intro w2 hz2 hu2))
      exact bodyPost_ret (hz2.res rfl _ rfl) rfl ⟨rfl, HB.out.trans (hu2.below (Nat.le_succ _))⟩
set_option maxHeartbeats 2000000 in
theorem rwake_v (t : Nat → Pr) (kind id : Int) (w : World) : Calls Try.prog 27 #[.agg (tcs t), .int .i64 kind, .int .i64 id] w fun e w' => e = .returned (.agg (tcs (wakeT kind id t))) ∧ Below w.heap.size w w' := by
  have hk0 := (Blk.new w t).alloc (.cells (tcs tz) 29)
  have hz0 : Blk ((w.alloc (.cells (tcs t) 29)).alloc (.cells (tcs tz) 29)) (w.heap.size + 1) tz := heap_alloc2_new _ _ _
  have hb0 := (Below.alloc (Below.refl w.heap.size w) (Nat.le_refl _) (.cells (tcs t) 29)).alloc (by simp) (.cells (tcs tz) 29)
  go_enter Try.func27, Try.ntmps27
  go_wp2_with (first | (refine st_alloc29 (by rfl) rfl ?_))
  go_loopw [7] (fun v wr => ∃ k : Nat, k ≤ 8 ∧ v = .int .i64 k ∧ Blk wr w.heap.size (mapN (wakeF kind id) t k) ∧ Blk wr (w.heap.size + 1) tz ∧ Below w.heap.size w wr) (fun v _ => 8 - (intOf v).toNat)
  case atStart => exact ⟨0, by omega, rfl, by rw [mapN_zero]; exact hk0, hz0, hb0⟩
  case round =>
    obtain ⟨k, hk, rfl, hblk, hz, hbel⟩ := hrel
    by_cases hk8 : k < 8
    · have hlt : (k : Int) < 8 := by omega
      have c2 := hblk.int k 2 hk8 (by decide) (by decide)
      have c25 := hblk.int k 25 hk8 (by decide) (by decide)
      have c26 := hblk.int k 26 hk8 (by decide) (by decide)
      rw [mapN_at] at c2 c25 c26
      have HB := hidI hbel; clear hbel
      cases h1 : ((t k).f 2 == 2)
      · have HE := hidI (mapN_keep (wakeF kind id) t k (by simp [wakeF, isW, h1]))
        go_wp2
        go_roundw
        case measure => simp [intOf]; omega
        case rel => exact ⟨k + 1, by omega, by go_num, by rw [← HE.out]; exact hblk, hz, HB.out⟩
      · cases h2 : ((t k).f 25 == kind)
        · have HE := hidI (mapN_keep (wakeF kind id) t k (by simp [wakeF, isW, h2]))
          go_wp2
          go_roundw
          case measure => simp [intOf]; omega
          case rel => exact ⟨k + 1, by omega, by go_num, by rw [← HE.out]; exact hblk, hz, HB.out⟩
        · cases h3 : ((t k).f 26 == id)
          · have HE := hidI (mapN_keep (wakeF kind id) t k (by simp [wakeF, isW, h3]))
            go_wp2
            go_roundw
            case measure => simp [intOf]; omega
            case rel => exact ⟨k + 1, by omega, by go_num, by rw [← HE.out]; exact hblk, hz, HB.out⟩
          · have HE := hidI (mapN_upd (wakeF kind id) t k)
            have HF := hidI (show wakeF kind id k (t k) = rdy (t k) by simp [wakeF, isW, h1, h2, h3])
            have hrc := rready_v (t k) wr
            go_wp2_with (first
              | (refine st_load28 (by rfl) rfl rfl hblk hk8 ?_; rw [mapN_at])
              | (go_at_call 34; refine hrc.mono ?_; rintro e w1 ⟨rfl, hb1⟩; have hk1 := hblk.below hb1 hblk.lt; have hz1 := hz.below hb1 hz.lt)
              | (refine st_store28 (by rfl) rfl rfl rfl hk1 hk8 ?_; intro w2 hb2 hu2))
            go_roundw
            case measure => simp [intOf]; omega
            case rel => exact ⟨k + 1, by omega, by go_num, by rw [← HE.out, HF.out]; exact hb2, hu2.blk hz1 (by omega), (HB.out.trans (hb1.mono HB.out.size)).trans (hu2.below (Nat.le_refl _))⟩
    · obtain rfl : k = 8 := by omega
      have HB := hidI hbel; clear hbel
      go_wp2_with (first | (refine st_load29 (by rfl) rfl rfl hblk ?_) | (refine st_store29 (by rfl) rfl rfl rfl hz ?_; intro w2 hz2 hu2))
      exact bodyPost_ret (hz2.res rfl _ rfl) rfl ⟨rfl, HB.out.trans (hu2.below (Nat.le_succ _))⟩
end Go.Proofs.Ytnnknhcdnklalaa.A
