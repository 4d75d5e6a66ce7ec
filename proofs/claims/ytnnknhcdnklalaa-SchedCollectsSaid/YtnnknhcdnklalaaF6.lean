/- The reference's Find and Free; Wake of both; ready of both. Conditions: none. -/
import Derived.Test.YtnnknhcdnklalaaOps2
namespace Go.Proofs.Ytnnknhcdnklalaa.A
open Go Go.RowKit
set_option linter.unusedSimpArgs false
set_option linter.unusedVariables false
theorem scan_step (p : Nat → Bool) (s k : Nat) (hk : k < 8) : scan p s (8 - k) = if p ((s + k) % 8) then (((s + k) % 8 : Nat) : Int) else scan p s (8 - (k + 1)) := by
  obtain ⟨m, hm⟩ : ∃ m, 8 - k = m + 1 := ⟨7 - k, by omega⟩
  rw [hm, scan]
  have : 8 - (m + 1) = k := by omega
  rw [this, show m = 8 - (k + 1) by omega]
theorem scan_step0 (p : Nat → Bool) (k : Nat) (hk : k < 8) : scan p 0 (8 - k) = if p k then (k : Int) else scan p 0 (8 - (k + 1)) := by
  rw [scan_step p 0 k hk, Nat.zero_add, Nat.mod_eq_of_lt hk]
set_option maxHeartbeats 1000000 in
theorem rfind_v (t : Nat → Pr) (n : Int) (w : World) : Calls Try.prog 20 #[.agg (tcs t), .int .i64 n] w fun e w' => e = .returned (.int .i64 (scan (fun i => (t i).f 2 != 0 && (t i).f 0 == n) 0 8)) ∧ Below w.heap.size w w' := by
  have hb0 := Below.alloc (Below.refl w.heap.size w) (Nat.le_refl _) (.cells (tcs t) 29)
  have hk0 := Blk.new w t
  generalize hp : (fun i => (t i).f 2 != 0 && (t i).f 0 == n) = p
  have hpp : ∀ i, p i = ((t i).f 2 != 0 && (t i).f 0 == n) := fun i => by rw [← hp]
  clear hp
  go_enter Try.func20, Try.ntmps20
  go_wp2
  go_loopw [5] (fun v wr => ∃ k : Nat, k ≤ 8 ∧ v = .int .i64 k ∧ Blk wr w.heap.size t ∧ Below w.heap.size w wr ∧ Hid (scan p 0 8 = scan p 0 (8 - k))) (fun v _ => 8 - (intOf v).toNat)
  case atStart => exact ⟨0, by omega, rfl, hk0, hb0, rfl⟩
  case round =>
    obtain ⟨k, hk, rfl, hblk, hbel, hv⟩ := hrel
    by_cases hk8 : k < 8
    · have hlt : (k : Int) < 8 := by omega
      have hsc := scan_step0 p k hk8
      rw [hpp k] at hsc
      have c2 := hblk.int k 2 hk8 (by decide) (by decide)
      have c0 := hblk.int0 k hk8
      cases h1 : ((t k).f 2 != 0)
      · rw [h1] at hsc
        have HV : Hid (scan p 0 8 = scan p 0 (8 - (k + 1))) := by rw [hv.out, hsc]; rfl
        clear hsc hv hpp
        go_wp2
        go_roundw
        case measure => simp [intOf]; omega
        case rel => exact ⟨k + 1, by omega, by go_num, hblk, hbel, HV⟩
      · cases h2 : ((t k).f 0 == n)
        · rw [h1, h2] at hsc
          have HV : Hid (scan p 0 8 = scan p 0 (8 - (k + 1))) := by rw [hv.out, hsc]; rfl
          clear hsc hv hpp
          go_wp2
          go_roundw
          case measure => simp [intOf]; omega
          case rel => exact ⟨k + 1, by omega, by go_num, hblk, hbel, HV⟩
        · rw [h1, h2] at hsc
          have HV : Hid (scan p 0 8 = k) := by rw [hv.out, hsc]; rfl
          clear hsc hv hpp
          go_wp2
          go_ret
          exact ⟨ret_int HV.out.symm, hbel⟩
    · obtain rfl : k = 8 := by omega
      go_wp2
      go_ret
      exact ⟨ret_int (by rw [hv.out]; rfl), hbel⟩
set_option maxHeartbeats 1000000 in
theorem rfree_v (t : Nat → Pr) (w : World) : Calls Try.prog 22 #[.agg (tcs t)] w fun e w' => e = .returned (.int .i64 (scan (fun i => (t i).f 2 == 0) 0 8)) ∧ Below w.heap.size w w' := by
  have hb0 := Below.alloc (Below.refl w.heap.size w) (Nat.le_refl _) (.cells (tcs t) 29)
  have hk0 := Blk.new w t
  generalize hp : (fun i => (t i).f 2 == 0) = p
  have hpp : ∀ i, p i = ((t i).f 2 == 0) := fun i => by rw [← hp]
  clear hp
  go_enter Try.func22, Try.ntmps22
  go_wp2
  go_loopw [3] (fun v wr => ∃ k : Nat, k ≤ 8 ∧ v = .int .i64 k ∧ Blk wr w.heap.size t ∧ Below w.heap.size w wr ∧ Hid (scan p 0 8 = scan p 0 (8 - k))) (fun v _ => 8 - (intOf v).toNat)
  case atStart => exact ⟨0, by omega, rfl, hk0, hb0, rfl⟩
  case round =>
    obtain ⟨k, hk, rfl, hblk, hbel, hv⟩ := hrel
    by_cases hk8 : k < 8
    · have hlt : (k : Int) < 8 := by omega
      have hsc := scan_step0 p k hk8
      rw [hpp k] at hsc
      have c2 := hblk.int k 2 hk8 (by decide) (by decide)
      cases h1 : ((t k).f 2 == 0)
      · rw [h1] at hsc
        have HV : Hid (scan p 0 8 = scan p 0 (8 - (k + 1))) := by rw [hv.out, hsc]; rfl
        clear hsc hv hpp
        go_wp2
        go_roundw
        case measure => simp [intOf]; omega
        case rel => exact ⟨k + 1, by omega, by go_num, hblk, hbel, HV⟩
      · rw [h1] at hsc
        have HV : Hid (scan p 0 8 = k) := by rw [hv.out, hsc]; rfl
        clear hsc hv hpp
        go_wp2
        go_ret
        exact ⟨ret_int HV.out.symm, hbel⟩
    · obtain rfl : k = 8 := by omega
      go_wp2
      go_ret
      exact ⟨ret_int (by rw [hv.out]; rfl), hbel⟩
/-- An entry that waits for nothing. -/
def rdy (p : Pr) : Pr := setf (setf (setf p 2 1) 25 0) 26 0
theorem updT_updT (t : Nat → Pr) (k : Nat) (p q : Pr) : updT (updT t k p) k q = updT t k q := by
  funext i; unfold updT; split <;> rfl
theorem rdy_upd (t : Nat → Pr) (k : Nat) : updT (updT (updT t k (setf (t k) 2 1)) k (setf (updT t k (setf (t k) 2 1) k) 25 0)) k (setf (updT (updT t k (setf (t k) 2 1)) k (setf (updT t k (setf (t k) 2 1) k) 25 0) k) 26 0) = updT t k (rdy (t k)) := by
  rw [updT_updT, updT_same, updT_same, updT_updT]; rfl
/-- ready: through a pointer into the table. -/
theorem pready_v (t : Nat → Pr) (b k : Nat) (hk : k < 8) (w : World) (hb : Blk w b t) : Calls Try.prog 33 #[.pointer (some ⟨b, k * 29, none⟩)] w fun e w' => e = .returned (.tuple #[]) ∧ Blk w' b (updT t k (rdy (t k))) ∧ Upd w b w' := by
  go_enter Try.func33, Try.ntmps33
  go_wp2_with (first
    | (refine st_field (n := 1) (j := 2) (k := k) (by rfl) rfl rfl rfl rfl hb hk (by decide) (by decide) ?_; intro w1 hb1 hu1)
    | (refine st_field (n := 0) (j := 25) (k := k) (by rfl) rfl rfl rfl rfl (by assumption) hk (by decide) (by decide) ?_; intro w2 hb2 hu2)
    | (refine st_field (n := 0) (j := 26) (k := k) (by rfl) rfl rfl rfl rfl (by assumption) hk (by decide) (by decide) ?_; intro w3 hb3 hu3))
  rw [rdy_upd] at hb3
  go_end0
  exact ⟨rfl, hb3, (hu1.trans hu2).trans hu3⟩
end Go.Proofs.Ytnnknhcdnklalaa.A
