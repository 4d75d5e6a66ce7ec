/- first: what the call returns, given what its function value returns. Condition: the function value answers with a truth value for each index. -/
import Derived.Test.YtnnknhcdnklalaaF1
namespace Go.Proofs.Ytnnknhcdnklalaa.A
open Go Go.RowKit
set_option linter.unusedSimpArgs false
set_option linter.unusedVariables false
/-- The first index from s on, round the table, with a property; n are left. -/
def scan (p : Nat → Bool) (s : Nat) : Nat → Int
  | 0 => -1
  | n + 1 => if p ((s + (8 - (n + 1))) % 8) then (((s + (8 - (n + 1))) % 8 : Nat) : Int) else scan p s n
def start (a : Int) : Nat := if 0 ≤ a ∧ a ≤ 7 then a.toNat + 1 else 0
theorem info28l (p : Pr) : (Try.prog.info? 28).map (·.size) = some (pcs p).toList.length := by
  rw [Array.length_toList, pcs_size]; exact info28
theorem info29l (t : Nat → Pr) : (Try.prog.info? 29).map (·.size) = some (tcs t).toList.length := by
  rw [Array.length_toList, tcs_size]; exact info29
set_option maxHeartbeats 1000000 in
theorem first_v (t : Nat → Pr) (a : Int) (n : Nat) (caps : Array Value) (p : Nat → Bool) (w : World)
    (hcf : ∀ args w', Sem.run Try.prog (callFunc n args) w' = .ok (.enter n args) w')
    (hf : ∀ i w', i < 8 → Below w.heap.size w w' → Calls Try.prog n (#[.int .i64 i, .agg (pcs (t i))] ++ caps) w' fun e w'' => e = .returned (.bool (p i)) ∧ Below w'.heap.size w' w'') :
    Calls Try.prog 36 #[.agg (tcs t), .int .i64 a, .func (.func n) #[] caps] w fun e w' => e = .returned (.int .i64 (scan p (start a) 8)) ∧ Below w.heap.size w w' := by
  by_cases hr : 0 ≤ a ∧ a ≤ 7
  · obtain ⟨s, rfl⟩ : ∃ s : Nat, a = s := ⟨a.toNat, by omega⟩
    have hs : start (s : Int) = s + 1 := by unfold start; rw [if_pos hr]; simp
    rw [hs]; clear hs
    have hd : decide ((0 : Int) ≤ s ∧ (s : Int) ≤ 7) = true := by simp; omega
    have h7 : (s : Int) ≤ 7 := by omega
    have hb0 := Below.alloc (Below.refl w.heap.size w) (Nat.le_refl _) (.cells (tcs t) 29)
    have hk0 := Blk.new w t
    go_enter Try.func36, Try.ntmps36
    go_wp2_with (first | (go_at_call 31; refine (from_v _ _ _ _).mono ?_; rintro e w' ⟨rfl, rfl⟩))
    go_loopw [12] (fun v wr => ∃ k : Nat, k ≤ 8 ∧ v = .int .i64 k ∧ Blk wr w.heap.size t ∧ Below w.heap.size w wr ∧ Hid (scan p (s + 1) 8 = scan p (s + 1) (8 - k))) (fun v _ => 8 - (intOf v).toNat)
    case atStart => exact ⟨0, by omega, rfl, hk0, hb0, rfl⟩
    case round =>
      obtain ⟨k, hk, rfl, hblk, hbel, hv⟩ := hrel
      by_cases hk8 : k < 8
      · have hlt : (k : Int) < 8 := by omega
        have ei : ((s : Int) + 1 + k) % 8 = (((s + 1 + k) % 8 : Nat) : Int) := by omega
        have hi8 : (s + 1 + k) % 8 < 8 := by omega
        have hsc : scan p (s + 1) (8 - k) = if p ((s + 1 + k) % 8) then (((s + 1 + k) % 8 : Nat) : Int) else scan p (s + 1) (8 - (k + 1)) := by
          obtain ⟨m, hm⟩ : ∃ m, 8 - k = m + 1 := ⟨7 - k, by omega⟩
          rw [hm, scan]
          have : 8 - (m + 1) = k := by omega
          rw [this, show m = 8 - (k + 1) by omega]
        generalize (s + 1 + k) % 8 = i at ei hi8 hsc
        have hrg := hblk.range i hi8
        have hcl := hf i wr hi8 hbel
        cases hp : p i
        · rw [hp] at hsc hcl
          have HV : Hid (scan p (s + 1) 8 = scan p (s + 1) (8 - (k + 1))) := by rw [hv.out, hsc]; rfl
          clear hsc hv
          go_wp2_with (first | (refine wpList_load_mid rfl 28 (.tmp 23) rfl _ _ rfl (pcs (t i)).toList _ hrg Try.underlying28 rfl (info28l _) ?_) | (refine hcl.mono ?_; rintro e w1 ⟨rfl, hb1⟩))
          go_roundw
          case measure => simp [intOf]; omega
          case rel => exact ⟨k + 1, by omega, by go_num, hblk.below hb1 hblk.lt, hbel.trans (hb1.mono hbel.size), HV⟩
        · rw [hp] at hsc hcl
          have HV : Hid (scan p (s + 1) 8 = i) := by rw [hv.out, hsc]; rfl
          clear hsc hv
          go_wp2_with (first | (refine wpList_load_mid rfl 28 (.tmp 23) rfl _ _ rfl (pcs (t i)).toList _ hrg Try.underlying28 rfl (info28l _) ?_) | (refine hcl.mono ?_; rintro e w1 ⟨rfl, hb1⟩))
          go_ret
          exact ⟨ret_int HV.out.symm, hbel.trans (hb1.mono hbel.size)⟩
      · obtain rfl : k = 8 := by omega
        go_wp2
        go_ret
        exact ⟨ret_int (by rw [hv.out]; rfl), hbel⟩
  · have hs : start a = 0 := by unfold start; rw [if_neg hr]
    rw [hs]; clear hs
    have hd : decide ((0 : Int) ≤ a ∧ a ≤ 7) = false := by simp; omega
    clear hr
    have hb0 := Below.alloc (Below.refl w.heap.size w) (Nat.le_refl _) (.cells (tcs t) 29)
    have hk0 := Blk.new w t
    go_enter Try.func36, Try.ntmps36
    go_wp2_with (first | (go_at_call 31; refine (from_v _ _ _ _).mono ?_; rintro e w' ⟨rfl, rfl⟩))
    go_loopw [12] (fun v wr => ∃ k : Nat, k ≤ 8 ∧ v = .int .i64 k ∧ Blk wr w.heap.size t ∧ Below w.heap.size w wr ∧ Hid (scan p (0) 8 = scan p (0) (8 - k))) (fun v _ => 8 - (intOf v).toNat)
    case atStart => exact ⟨0, by omega, rfl, hk0, hb0, rfl⟩
    case round =>
      obtain ⟨k, hk, rfl, hblk, hbel, hv⟩ := hrel
      by_cases hk8 : k < 8
      · have hlt : (k : Int) < 8 := by omega
        have ei : (k : Int) % 8 = (((0 + k) % 8 : Nat) : Int) := by omega
        have hi8 : (0 + k) % 8 < 8 := by omega
        have hsc : scan p (0) (8 - k) = if p ((0 + k) % 8) then (((0 + k) % 8 : Nat) : Int) else scan p (0) (8 - (k + 1)) := by
          obtain ⟨m, hm⟩ : ∃ m, 8 - k = m + 1 := ⟨7 - k, by omega⟩
          rw [hm, scan]
          have : 8 - (m + 1) = k := by omega
          rw [this, show m = 8 - (k + 1) by omega]
        generalize (0 + k) % 8 = i at ei hi8 hsc
        have hrg := hblk.range i hi8
        have hcl := hf i wr hi8 hbel
        cases hp : p i
        · rw [hp] at hsc hcl
          have HV : Hid (scan p (0) 8 = scan p (0) (8 - (k + 1))) := by rw [hv.out, hsc]; rfl
          clear hsc hv
          go_wp2_with (first | (refine wpList_load_mid rfl 28 (.tmp 23) rfl _ _ rfl (pcs (t i)).toList _ hrg Try.underlying28 rfl (info28l _) ?_) | (refine hcl.mono ?_; rintro e w1 ⟨rfl, hb1⟩))
          go_roundw
          case measure => simp [intOf]; omega
          case rel => exact ⟨k + 1, by omega, by go_num, hblk.below hb1 hblk.lt, hbel.trans (hb1.mono hbel.size), HV⟩
        · rw [hp] at hsc hcl
          have HV : Hid (scan p (0) 8 = i) := by rw [hv.out, hsc]; rfl
          clear hsc hv
          go_wp2_with (first | (refine wpList_load_mid rfl 28 (.tmp 23) rfl _ _ rfl (pcs (t i)).toList _ hrg Try.underlying28 rfl (info28l _) ?_) | (refine hcl.mono ?_; rintro e w1 ⟨rfl, hb1⟩))
          go_ret
          exact ⟨ret_int HV.out.symm, hbel.trans (hb1.mono hbel.size)⟩
      · obtain rfl : k = 8 := by omega
        go_wp2
        go_ret
        exact ⟨ret_int (by rw [hv.out]; rfl), hbel⟩
end Go.Proofs.Ytnnknhcdnklalaa.A
