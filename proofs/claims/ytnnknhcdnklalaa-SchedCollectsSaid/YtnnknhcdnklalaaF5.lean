/- Victim, and the inner function of Reap: what each call returns. No condition. -/
import Derived.Test.YtnnknhcdnklalaaF4
namespace Go.Proofs.Ytnnknhcdnklalaa.A
open Go Go.RowKit
set_option linter.unusedSimpArgs false
set_option linter.unusedVariables false
def pvic (t : Nat → Pr) (st a : Int) (i : Nat) : Bool := ((t i).f 2 == st && !(t i).sw) && (i : Int) != a
def victimS (t : Nat → Pr) (a : Int) : Int := if 0 ≤ scan (pvic t 2 a) (start a) 8 then scan (pvic t 2 a) (start a) 8 else scan (pvic t 1 a) (start a) 8
theorem scan_neg (p : Nat → Bool) (s : Nat) : ∀ n, ¬ 0 ≤ scan p s n → scan p s n = -1
  | 0, _ => rfl
  | n + 1, h => by
    unfold scan at h ⊢
    split
    · rename_i hp; rw [if_pos hp] at h; omega
    · rename_i hp; rw [if_neg hp] at h; exact scan_neg p s n h
theorem vic_call (t : Nat → Pr) (a st : Int) (w0 W : World) (b1 b2 : Nat) (h1 : W.cell? ⟨b1, 0, none⟩ = some (.int .i64 st)) (h2 : W.cell? ⟨b2, 0, none⟩ = some (.int .i64 a)) :
    Calls Try.prog 36 #[.agg (tcs t), .int .i64 a, .func (.func 42) #[] #[.pointer (some ⟨b1, 0, none⟩), .pointer (some ⟨b2, 0, none⟩)]] W fun e w' => e = .returned (.int .i64 (scan (pvic t st a) (start a) 8)) ∧ Below W.heap.size W w' :=
  first_v t a 42 #[.pointer (some ⟨b1, 0, none⟩), .pointer (some ⟨b2, 0, none⟩)] (pvic t st a) W cf42 (fun i w' _ hb =>
    (cvic_v i (t i) w' _ _ st a (by rw [hb.cell (World.block_lt_of_cell? W _ h1)]; exact h1) (by rw [hb.cell (World.block_lt_of_cell? W _ h2)]; exact h2)).mono fun e w'' h => ⟨h.1, bel1 h.2⟩)
set_option maxHeartbeats 1000000 in
theorem victim_v (t : Nat → Pr) (a : Int) (w : World) : Calls Try.prog 24 #[.agg (tcs t), .int .i64 a] w fun e w' => e = .returned (.int .i64 (victimS t a)) ∧ Below w.heap.size w w' := by
  have hbk := (((Blk.new w t).alloc (.cells #[.int .i64 a] 3)).alloc (.cells #[.int .i64 2, .int .i64 1] 3)).alloc (.cells #[.int .i64 2] 3)
  have hb0 := (((Below.alloc (Below.refl w.heap.size w) (Nat.le_refl _) (.cells (tcs t) 29)).alloc (by simp) (.cells #[.int .i64 a] 3)).alloc (by simp; omega) (.cells #[.int .i64 2, .int .i64 1] 3)).alloc (by simp; omega) (.cells #[.int .i64 2] 3)
  obtain ⟨W, hW⟩ : ∃ W, W = (((w.alloc (.cells (tcs t) 29)).alloc (.cells #[.int .i64 a] 3)).alloc (.cells #[.int .i64 2, .int .i64 1] 3)).alloc (.cells #[.int .i64 2] 3) := ⟨_, rfl⟩
  have e1 : W.cell? ⟨w.heap.size + 1 + 1 + 1, 0, none⟩ = some (.int .i64 2) := by rw [hW]; simp [go_sem]
  have e2 : W.cell? ⟨w.heap.size + 1, 0, none⟩ = some (.int .i64 a) := by rw [hW]; simp [go_sem]
  have e3 : W.cell? ⟨w.heap.size + 1 + 1, 1, none⟩ = some (.int .i64 1) := by rw [hW]; simp [go_sem]
  have hs : W.heap.size = w.heap.size + 1 + 1 + 1 + 1 := by rw [hW]; simp
  have hc := vic_call t a 2 w W _ _ e1 e2
  rw [← hW] at hb0 hbk
  have hwh := hbk.whole
  rw [hW] at hwh hc
  have Hs := hidI hs; clear hs
  have He1 := hidI e1; clear e1
  have He2 := hidI e2; clear e2
  have He3 := hidI e3; clear e3
  have HW := hidI hW; clear hW
  go_enter Try.func24, Try.ntmps24
  go_wp2
  refine wp_loop_rounds 3 ?_
  rw [rounds_succ]
  cases hv : decide (0 ≤ scan (pvic t 2 a) (start a) 8)
  · have hn : ¬ 0 ≤ scan (pvic t 2 a) (start a) 8 := by simpa using hv
    have hm1 := scan_neg _ _ _ hn
    rw [hm1] at hc
    have HS : Hid (victimS t a = scan (pvic t 1 a) (start a) 8) := by unfold Hid victimS; rw [if_neg hn]
    clear hv hn hm1
    go_wp2_with (first | (refine wpList_load_mid rfl 29 (.tmp 2) rfl _ _ rfl (tcs t).toList _ hwh Try.underlying29 rfl (info29l _) ?_) | (go_at_call 36; refine hc.mono ?_; rintro e w1 ⟨rfl, hb1⟩))
    rw [← HW.out] at hb1
    clear hc hwh
    have hlt : W.heap.size ≤ w1.heap.size := hb1.size
    have f2 : w1.cell? ⟨w.heap.size + 1, 0, none⟩ = some (.int .i64 a) := by rw [hb1.cell (by rw [Hs.out]; show w.heap.size + 1 < _; omega)]; exact He2.out
    have f3 : w1.cell? ⟨w.heap.size + 1 + 1, 1, none⟩ = some (.int .i64 1) := by rw [hb1.cell (by rw [Hs.out]; show w.heap.size + 1 + 1 < _; omega)]; exact He3.out
    have hbk1 := hbk.below hb1 hbk.lt
    have hbb := hb0.trans (hb1.mono hb0.size)
    have hwh2 := (hbk1.alloc (.cells #[.int .i64 1] 3)).whole
    have hc2 := vic_call t a 1 w (w1.alloc (.cells #[.int .i64 1] 3)) w1.heap.size (w.heap.size + 1) (by simp [go_sem]) (cell_kept f2 _)
    have hbb2 := hbb.alloc hbb.size (.cells #[.int .i64 1] 3)
    have k2 := cell_kept f2 (.cells #[.int .i64 1] 3)
    clear hb1 hb0 hbk hbk1 hlt hbb
    have HB := hidI hbb2; clear hbb2
    rw [rounds_succ]
    cases hv : decide (0 ≤ scan (pvic t 1 a) (start a) 8)
    · have hn : ¬ 0 ≤ scan (pvic t 1 a) (start a) 8 := by simpa using hv
      have hm1 := scan_neg _ _ _ hn
      rw [hm1] at hc2
      have HS2 : Hid (victimS t a = -1) := by unfold Hid; rw [HS.out, hm1]
      clear hv hn hm1 HS
      go_wp2_with (first | (refine wpList_load_mid rfl 29 (.tmp 2) rfl _ _ rfl (tcs t).toList _ hwh2 Try.underlying29 rfl (info29l _) ?_) | (go_at_call 36; refine hc2.mono ?_; rintro e w2 ⟨rfl, hb2⟩))
      rw [rounds_succ]
      go_wp2
      go_ret
      exact ⟨ret_int HS2.out.symm, HB.out.trans (hb2.mono HB.out.size)⟩
    · have hvv : 0 ≤ scan (pvic t 1 a) (start a) 8 := by simpa using hv
      generalize scan (pvic t 1 a) (start a) 8 = z at *
      clear hv
      go_wp2_with (first | (refine wpList_load_mid rfl 29 (.tmp 2) rfl _ _ rfl (tcs t).toList _ hwh2 Try.underlying29 rfl (info29l _) ?_) | (go_at_call 36; refine hc2.mono ?_; rintro e w2 ⟨rfl, hb2⟩))
      go_ret
      exact ⟨ret_int HS.out.symm, HB.out.trans (hb2.mono HB.out.size)⟩
  · have hvv : 0 ≤ scan (pvic t 2 a) (start a) 8 := by simpa using hv
    have HS : Hid (victimS t a = scan (pvic t 2 a) (start a) 8) := by unfold Hid victimS; rw [if_pos hvv]
    generalize scan (pvic t 2 a) (start a) 8 = z at *
    clear hv
    go_wp2_with (first | (refine wpList_load_mid rfl 29 (.tmp 2) rfl _ _ rfl (tcs t).toList _ hwh Try.underlying29 rfl (info29l _) ?_) | (go_at_call 36; refine hc.mono ?_; rintro e w1 ⟨rfl, hb1⟩))
    go_ret
    rw [← HW.out] at hb1
    exact ⟨ret_int HS.out.symm, hb0.trans (hb1.mono hb0.size)⟩
end Go.Proofs.Ytnnknhcdnklalaa.A
