/- The reference's registers and waits: what each call returns. No condition. -/
import Derived.Test.YtnnknhcdnklalaaF14
namespace Go.Proofs.Ytnnknhcdnklalaa.A
open Go Go.RowKit
set_option linter.unusedSimpArgs false
set_option linter.unusedVariables false
theorem regs_false (p : Pr) (k : Nat) (hk : k < 9) (h : rgs p k = false) : regsB p = false := by unfold regsB; rw [allB_false _ 9 k hk h]; rfl
theorem regs_tail (p : Pr) (h : allB (rgs p) 6 = true) : regsB p = (((rg 0 65535 (p.f 9) && rg 0 65535 (p.f 10)) && rg 0 65535 (p.f 11)) && rg 49152 49183 (p.f 12)) := by
  unfold regsB
  rw [allB_succ, allB_succ, allB_succ, h]; rfl
set_option maxHeartbeats 4000000 in
set_option maxRecDepth 100000 in
theorem rregs_v (p : Pr) (w : World) : Calls Try.prog 46 #[.agg (ccs p)] w fun e w' => e = .returned (.bool (regsB p)) ∧ Below w.heap.size w w' := by
  have hcb0 := CBlk.new w p
  have hB0 := Below.alloc (Below.refl w.heap.size w) (Nat.le_refl _) (.cells (ccs p) 25)
  go_enter Try.func46, Try.ntmps46
  go_wp2
  go_loopw [3] (fun v wr => ∃ k : Nat, k ≤ 6 ∧ v = .int .i64 k ∧ CBlk wr w.heap.size p ∧ Below w.heap.size w wr ∧ Hid (allB (rgs p) k = true)) (fun v _ => 6 - (intOf v).toNat)
  case atStart => exact ⟨0, by omega, rfl, hcb0, hB0, rfl⟩
  case round =>
    clear hcb0 hB0
    obtain ⟨k, hk, rfl, hcb, hbel, hv⟩ := hrel
    have HB := hidI hbel; clear hbel
    by_cases hk6 : k < 6
    · have hlt : (k : Int) < 6 := by omega
      have hlo : (0 : Int) ≤ k := by omega
      have hcg := hcb.int k (by omega)
      have hs := allB_succ (rgs p) k
      have hff := regs_false p k (by omega)
      have hw : ∀ W, Calls Try.prog 48 #[.int .i64 (p.f (3 + k))] W fun e w' => e = .returned (.bool (rgs p k)) ∧ w' = W := fun W => word_b _ W
      cases hq : rgs p k
      · simp only [hq] at hw
        have HF := hidI (hff hq)
        clear hs hff hv hq
        go_wp2_with (first | (go_at_call 48; refine (hw _).mono ?_; rintro e w2 ⟨rfl, rfl⟩))
        go_ret
        exact ⟨ret_bool HF.out.symm, HB.out⟩
      · simp only [hq] at hw
        have HS : Hid (allB (rgs p) (k + 1) = true) := by rw [Hid, hs, hv.out, hq]; rfl
        clear hs hff hv hq
        go_wp2_with (first | (go_at_call 48; refine (hw _).mono ?_; rintro e w2 ⟨rfl, rfl⟩))
        go_roundw
        case measure => simp [intOf]; omega
        case rel => exact ⟨k + 1, by omega, by go_num, hcb, HB.out, HS⟩
    · obtain rfl : k = 6 := by omega
      rw [show ((6 : Nat) : Int) = 6 from rfl]
      have c6 := hcb.int 6 (by decide)
      have c7 := hcb.int 7 (by decide)
      have c8 := hcb.int 8 (by decide)
      have c9 := hcb.int 9 (by decide)
      have HE := hidI (regs_tail p hv.out)
      have hw9 := fun W => word_b (p.f 9) W
      have hw10 := fun W => word_b (p.f 10) W
      have hw11 := fun W => word_b (p.f 11) W
      clear hv
      cases h9 : rg 0 65535 (p.f 9)
      · simp only [h9] at hw9
        have HE9 : Hid (regsB p = false) := by rw [Hid, HE.out, h9]; rfl
        clear h9
        go_wp2_with (first
          | (go_at_call 48; ((with_reducible refine (hw9 _).mono ?_); rintro e w2 ⟨rfl, rfl⟩))
          | (go_at_call 48; ((with_reducible refine (hw10 _).mono ?_); rintro e w2 ⟨rfl, rfl⟩))
          | (go_at_call 48; ((with_reducible refine (hw11 _).mono ?_); rintro e w2 ⟨rfl, rfl⟩)))
        go_ret
        exact ⟨ret_bool (by rw [HE9.out]), HB.out⟩
      · simp only [h9] at hw9
        cases h10 : rg 0 65535 (p.f 10)
        · simp only [h10] at hw10
          have HE9 : Hid (regsB p = false) := by rw [Hid, HE.out, h9, h10]; rfl
          clear h9 h10
          go_wp2_with (first
            | (go_at_call 48; ((with_reducible refine (hw9 _).mono ?_); rintro e w2 ⟨rfl, rfl⟩))
            | (go_at_call 48; ((with_reducible refine (hw10 _).mono ?_); rintro e w2 ⟨rfl, rfl⟩))
            | (go_at_call 48; ((with_reducible refine (hw11 _).mono ?_); rintro e w2 ⟨rfl, rfl⟩)))
          go_ret
          exact ⟨ret_bool (by rw [HE9.out]), HB.out⟩
        · simp only [h10] at hw10
          cases h11 : rg 0 65535 (p.f 11)
          · simp only [h11] at hw11
            have HE9 : Hid (regsB p = false) := by rw [Hid, HE.out, h9, h10, h11]; rfl
            clear h9 h10 h11
            go_wp2_with (first
              | (go_at_call 48; ((with_reducible refine (hw9 _).mono ?_); rintro e w2 ⟨rfl, rfl⟩))
              | (go_at_call 48; ((with_reducible refine (hw10 _).mono ?_); rintro e w2 ⟨rfl, rfl⟩))
              | (go_at_call 48; ((with_reducible refine (hw11 _).mono ?_); rintro e w2 ⟨rfl, rfl⟩)))
            go_ret
            exact ⟨ret_bool (by rw [HE9.out]), HB.out⟩
          · simp only [h11] at hw11
            have HE9 : Hid (regsB p = rg 49152 49183 (p.f 12)) := by rw [Hid, HE.out, h9, h10, h11]; rfl
            clear h9 h10 h11
            have hge : decide (49152 ≤ p.f 12) = true ∨ decide (49152 ≤ p.f 12) = false := by cases decide (49152 ≤ p.f 12) <;> simp
            rcases hge with hge | hge
            · have HX : Hid (rg 49152 49183 (p.f 12) = decide (p.f 12 ≤ 49183)) := by unfold Hid rg; simp at hge; simp [hge]
              go_wp2_with (first
                | (go_at_call 48; ((with_reducible refine (hw9 _).mono ?_); rintro e w2 ⟨rfl, rfl⟩))
                | (go_at_call 48; ((with_reducible refine (hw10 _).mono ?_); rintro e w2 ⟨rfl, rfl⟩))
                | (go_at_call 48; ((with_reducible refine (hw11 _).mono ?_); rintro e w2 ⟨rfl, rfl⟩)))
              go_ret
              exact ⟨ret_bool (by rw [HE9.out, HX.out]), HB.out⟩
            · have HX : Hid (rg 49152 49183 (p.f 12) = false) := by unfold Hid rg; simp at hge; simp; omega
              go_wp2_with (first
                | (go_at_call 48; ((with_reducible refine (hw9 _).mono ?_); rintro e w2 ⟨rfl, rfl⟩))
                | (go_at_call 48; ((with_reducible refine (hw10 _).mono ?_); rintro e w2 ⟨rfl, rfl⟩))
                | (go_at_call 48; ((with_reducible refine (hw11 _).mono ?_); rintro e w2 ⟨rfl, rfl⟩)))
              go_ret
              exact ⟨ret_bool (by rw [HE9.out, HX.out]), HB.out⟩
theorem waits_ref (p : Pr) : waitsB p = if p.f 2 = 1 then p.f 25 == 0 && p.f 26 == 0 else if p.f 25 = 1 then p.f 26 == 0 else ((p.f 25 == 2 || p.f 25 == 3) && decide (0 ≤ p.f 26)) && decide (p.f 26 < 24) := by
  unfold waitsB
  split
  · rfl
  · split
    · rfl
    · rw [Bool.and_assoc]; congr 1
      rw [Bool.eq_iff_iff]; simp; omega
set_option maxHeartbeats 4000000 in
theorem rwaits_v (p : Pr) (w : World) : Calls Try.prog 47 #[.agg (pcs p)] w fun e w' => e = .returned (.bool (waitsB p)) ∧ w' = w.alloc (.cells (pcs p) 28) := by
  have c2 := pcs_int p 2 (by decide) (by decide)
  have c25 := pcs_int p 25 (by decide) (by decide)
  have c26 := pcs_int p 26 (by decide) (by decide)
  rw [waits_ref p]
  by_cases q : p.f 2 = 1
  · cases h1 : (p.f 25 == 0)
    all_goals
      go_enter Try.func47, Try.ntmps47
      go_wp2
      go_ret
      exact ⟨ret_bool (by simp [*]), rfl⟩
  · by_cases q1 : p.f 25 = 1
    · go_enter Try.func47, Try.ntmps47
      go_wp2
      go_ret
      exact ⟨ret_bool (by simp [*]), rfl⟩
    · rw [if_neg q, if_neg q1]
      cases h2 : (p.f 25 == 2)
      · cases h3 : (p.f 25 == 3)
        · go_enter Try.func47, Try.ntmps47
          go_wp2
          go_ret
          exact ⟨ret_bool (by simp [*]), rfl⟩
        · cases h4 : decide (0 ≤ p.f 26)
          all_goals
            go_enter Try.func47, Try.ntmps47
            go_wp2
            go_ret
            exact ⟨ret_bool (by simp [*]), rfl⟩
      · cases h4 : decide (0 ≤ p.f 26)
        all_goals
          go_enter Try.func47, Try.ntmps47
          go_wp2
          go_ret
          exact ⟨ret_bool (by simp [*]), rfl⟩
end Go.Proofs.Ytnnknhcdnklalaa.A
