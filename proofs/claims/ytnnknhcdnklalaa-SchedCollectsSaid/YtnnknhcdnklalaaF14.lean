/- registers of both packages, and the reference's waits: what each call returns. No condition. -/
import Derived.Test.YtnnknhcdnklalaaF13
namespace Go.Proofs.Ytnnknhcdnklalaa.A
open Go Go.RowKit
set_option linter.unusedSimpArgs false
set_option linter.unusedVariables false
/-- The ten cells of a process's registers. -/
def ccs (p : Pr) : Array Value := #[.int .i64 (p.f 3), .int .i64 (p.f 4), .int .i64 (p.f 5), .int .i64 (p.f 6), .int .i64 (p.f 7), .int .i64 (p.f 8), .int .i64 (p.f 9), .int .i64 (p.f 10), .int .i64 (p.f 11), .int .i64 (p.f 12)]
theorem ccs_get (p : Pr) (k : Nat) (h : k < 10) : (ccs p)[k]? = some (.int .i64 (p.f (3 + k))) := by
  match k, h with
  | 0, _ => rfl
  | 1, _ => rfl
  | 2, _ => rfl
  | 3, _ => rfl
  | 4, _ => rfl
  | 5, _ => rfl
  | 6, _ => rfl
  | 7, _ => rfl
  | 8, _ => rfl
  | 9, _ => rfl
  | k + 10, h => exact absurd h (by omega)
def CBlk (w : World) (b : Nat) (p : Pr) : Prop := w.heap[b]? = some (.cells (ccs p) 25 (0, 0))
theorem CBlk.lt {w : World} {b : Nat} {p : Pr} (h : CBlk w b p) : b < w.heap.size := by unfold CBlk at h; exact (Array.getElem?_eq_some_iff.1 h).1
theorem CBlk.int {w : World} {b : Nat} {p : Pr} (h : CBlk w b p) (j : Nat) (hj : j < 10) : w.cell? ⟨b, j, none⟩ = some (.int .i64 (p.f (3 + j))) := by
  rw [cell_of_row _ _ _ _ _ _ h, ccs_get p j hj]
theorem CBlk.alloc {w : World} {b : Nat} {p : Pr} (h : CBlk w b p) (o : Obj) : CBlk (w.alloc o) b p := by
  unfold CBlk; show (w.heap.push o)[b]? = _; rw [Array.getElem?_push, if_neg (by have := h.lt; omega)]; exact h
theorem CBlk.new (w : World) (p : Pr) : CBlk (w.alloc (.cells (ccs p) 25)) w.heap.size p := heap_alloc_new w _
theorem six_cell {w : World} {b : Nat} {p : Pr} (h : CBlk w b p) (j : Nat) (u : Value) (hj : ((List.range 6).map fun j => Value.int .i64 (p.f (3 + j)))[j]? = some u) : w.cell? ⟨b, j, none⟩ = some u := by
  have hl : j < 6 := by have := (List.getElem?_eq_some_iff.1 hj).1; simpa using this
  rw [h.int j (by omega), ← hj, List.getElem?_map, List.getElem?_range hl]; rfl
/-- Block g begins with the nine words of a process's registers. -/
def R9 (w : World) (g : Nat) (p : Pr) : Prop := ∀ j, j < 9 → w.cell? ⟨g, j, none⟩ = some (.int .i64 (p.f (3 + j)))
theorem R9.below {w w' : World} {g B : Nat} {p : Pr} (h : R9 w g p) (hb : Below B w w') (hg : g < B) : R9 w' g p := fun j hj => by rw [hb.cell hg]; exact h j hj
theorem row9 {w : World} {base : Nat} {v : Value} {p : Pr} (h : w.ownsRow base 3 1 v (6 + 3) (((List.range 6).map fun j => Value.int .i64 (p.f (3 + j))) ++ [.int .i64 (p.f 9), .int .i64 (p.f 10), .int .i64 (p.f 11)])) :
    ∃ g cap, v = .slice (some ⟨g, 0, none⟩) 9 cap ∧ base ≤ g ∧ g < w.heap.size ∧ R9 w g p := by
  rcases h.2 with ⟨_, h0⟩ | ⟨g, cap, cur, hv, hg, hh, _, _, _, ht⟩
  · omega
  · refine ⟨g, cap, hv, hg, (Array.getElem?_eq_some_iff.1 hh).1, fun j hj => ?_⟩
    rw [cell_of_row _ _ _ _ _ _ hh]
    have := congrArg (fun l : List Value => l[j]?) ht
    simp only [List.getElem?_take, Array.getElem?_toList] at this
    rw [if_pos (by omega)] at this
    rw [this]
    match j, hj with
    | 0, _ => rfl
    | 1, _ => rfl
    | 2, _ => rfl
    | 3, _ => rfl
    | 4, _ => rfl
    | 5, _ => rfl
    | 6, _ => rfl
    | 7, _ => rfl
    | 8, _ => rfl
    | j + 9, h => exact absurd h (by omega)
theorem draw_val {P : Program} {ops : Array Oper} {Q : Exit → Act → World → Prop} {i : Nat} {K : Act → World → Prop} {a : Act} {w : World} (o : Oper) {v : Value} {w' : World} (ho : ops[i]? = some o) (hw : Region.wanted o (yielded ops a.tmps) = true)
    (hr : (execOp a.eval o).run P w = .ok (.value v) w') (h : K (a.put o.dst v) w') : wpOp P ops Q i K a w := by
  unfold wpOp; rw [ho]; simp only [hw, if_true]; left; unfold Oper.wp; rw [hr]; exact h
/-- A number in a range, as one truth value. -/
def rg (lo hi n : Int) : Bool := decide (lo ≤ n ∧ n ≤ hi)
theorem from_b (n lo hi : Int) (w : World) : Calls Try.prog 31 #[.int .i64 n, .int .i64 lo, .int .i64 hi] w fun e w' => e = .returned (.bool (rg lo hi n)) ∧ w' = w := from_v n lo hi w
theorem word_b (n : Int) (w : World) : Calls Try.prog 48 #[.int .i64 n] w fun e w' => e = .returned (.bool (rg 0 65535 n)) ∧ w' = w := word_v n w
def allB (f : Nat → Bool) (n : Nat) : Bool := (List.range n).all f
theorem allB_succ (f : Nat → Bool) (n : Nat) : allB f (n + 1) = (allB f n && f n) := by unfold allB; rw [List.range_succ, List.all_append]; simp
theorem allB_false (f : Nat → Bool) (n k : Nat) (hk : k < n) (h : f k = false) : allB f n = false := by
  rw [← Bool.not_eq_true]; intro hh
  have := List.all_eq_true.1 hh k (List.mem_range.2 hk)
  rw [h] at this; cases this
def rgs (p : Pr) (j : Nat) : Bool := rg 0 65535 (p.f (3 + j))
def regsB (p : Pr) : Bool := allB (rgs p) 9 && rg 49152 49183 (p.f 12)
set_option maxHeartbeats 4000000 in
set_option maxRecDepth 100000 in
theorem regs_v (p : Pr) (w : World) : Calls Try.prog 44 #[.agg (ccs p)] w fun e w' => e = .returned (.bool (regsB p)) ∧ Below w.heap.size w w' := by
  obtain ⟨i0, hi, hz0, hz1, hz2⟩ := info_parts info3z
  have hS0 : CBlk ((w.alloc (.cells (ccs p) 25)).drew) w.heap.size p ∧ Below w.heap.size w ((w.alloc (.cells (ccs p) 25)).drew) := ⟨CBlk.new w p, ((Below.refl _ _).alloc (Nat.le_refl _) _).drew⟩
  have hnew : ∀ o, (((w.alloc (.cells (ccs p) 25)).drew).alloc o).heap[w.heap.size + 1]? = some o := fun o => by
    have := heap_alloc_new ((w.alloc (.cells (ccs p) 25)).drew) o
    rw [show ((w.alloc (.cells (ccs p) 25)).drew).heap.size = w.heap.size + 1 by simp] at this
    exact this
  go_enter Try.func44, Try.ntmps44
  go_wp2
  refine wp_region_held_drew (S := fun wh => CBlk wh w.heap.size p ∧ Below w.heap.size w wh) (by kernel_rfl) (hS0) (fun hHeld => ?_)
  show wpAnyH _ _ _ _ _ (13 + 1) #[false, false, false, false, false, false, false, false, false, false, false, false, false, false] _ _
  refine wpAnyH_take (i := 0) (v := .pointer (some ⟨w.heap.size, 0, none⟩)) rfl (by kernel_rfl) (by kernel_rfl) (by kernel_rfl) (fun _ _ _ h => h) (Or.inl ⟨by rfl, fun _ _ => rfl⟩) hHeld ?_
  show wpAnyH _ _ _ _ _ _ _ (Act.put _ (some 5) _) _
  simp only [Act.put, List.setIfInBounds_toArray, List.set_cons_zero, List.set_cons_succ]
  refine wpAnyH_take (i := 1) (v := .slice (some ⟨w.heap.size, 0, none⟩) 6 6) rfl (by kernel_rfl) (by kernel_rfl) (by kernel_rfl) (fun _ _ _ h => h) (Or.inl ⟨by rfl, fun _ _ => by kernel_rfl⟩) hHeld ?_
  show wpAnyH _ _ _ _ _ _ _ (Act.put _ (some 6) _) _
  simp only [Act.put, List.setIfInBounds_toArray, List.set_cons_zero, List.set_cons_succ]
  refine wpAnyH_take (i := 2) (v := .pointer (some ⟨w.heap.size, 6, none⟩)) rfl (by kernel_rfl) (by kernel_rfl) (by kernel_rfl) (fun _ _ _ h => h) (Or.inl ⟨by rfl, fun _ _ => rfl⟩) hHeld ?_
  show wpAnyH _ _ _ _ _ _ _ (Act.put _ (some 7) _) _
  simp only [Act.put, List.setIfInBounds_toArray, List.set_cons_zero, List.set_cons_succ]
  refine wpAnyH_take (i := 3) (v := .pointer (some ⟨w.heap.size, 6, none⟩)) rfl (by kernel_rfl) (by kernel_rfl) (by kernel_rfl) (fun _ _ _ h => h) (Or.inl ⟨by rfl, fun wh hS => by go_simp⟩) hHeld ?_
  show wpAnyH _ _ _ _ _ _ _ (Act.put _ (some 8) _) _
  simp only [Act.put, List.setIfInBounds_toArray, List.set_cons_zero, List.set_cons_succ]
  refine wpAnyH_take (i := 4) (v := .int .i64 (p.f 9)) rfl (by kernel_rfl) (by kernel_rfl) (by kernel_rfl) (fun _ _ _ h => h) (yieldsIf_cell (by rfl) rfl rfl (fun wh hS => hS.1.int 6 (by decide)) isInt3) hHeld ?_
  show wpAnyH _ _ _ _ _ _ _ (Act.put _ (some 9) _) _
  simp only [Act.put, List.setIfInBounds_toArray, List.set_cons_zero, List.set_cons_succ]
  refine wpAnyH_take (i := 5) (v := .pointer (some ⟨w.heap.size, 6, none⟩)) rfl (by kernel_rfl) (by kernel_rfl) (by kernel_rfl) (fun _ _ _ h => h) (Or.inl ⟨by rfl, fun _ _ => rfl⟩) hHeld ?_
  show wpAnyH _ _ _ _ _ _ _ (Act.put _ (some 10) _) _
  simp only [Act.put, List.setIfInBounds_toArray, List.set_cons_zero, List.set_cons_succ]
  refine wpAnyH_take (i := 6) (v := .pointer (some ⟨w.heap.size, 7, none⟩)) rfl (by kernel_rfl) (by kernel_rfl) (by kernel_rfl) (fun _ _ _ h => h) (Or.inl ⟨by rfl, fun wh hS => by go_simp⟩) hHeld ?_
  show wpAnyH _ _ _ _ _ _ _ (Act.put _ (some 11) _) _
  simp only [Act.put, List.setIfInBounds_toArray, List.set_cons_zero, List.set_cons_succ]
  refine wpAnyH_take (i := 7) (v := .int .i64 (p.f 10)) rfl (by kernel_rfl) (by kernel_rfl) (by kernel_rfl) (fun _ _ _ h => h) (yieldsIf_cell (by rfl) rfl rfl (fun wh hS => hS.1.int 7 (by decide)) isInt3) hHeld ?_
  show wpAnyH _ _ _ _ _ _ _ (Act.put _ (some 12) _) _
  simp only [Act.put, List.setIfInBounds_toArray, List.set_cons_zero, List.set_cons_succ]
  refine wpAnyH_take (i := 8) (v := .pointer (some ⟨w.heap.size, 8, none⟩)) rfl (by kernel_rfl) (by kernel_rfl) (by kernel_rfl) (fun _ _ _ h => h) (Or.inl ⟨by rfl, fun _ _ => rfl⟩) hHeld ?_
  show wpAnyH _ _ _ _ _ _ _ (Act.put _ (some 13) _) _
  simp only [Act.put, List.setIfInBounds_toArray, List.set_cons_zero, List.set_cons_succ]
  refine wpAnyH_take (i := 9) (v := .int .i64 (p.f 11)) rfl (by kernel_rfl) (by kernel_rfl) (by kernel_rfl) (fun _ _ _ h => h) (yieldsIf_cell (by rfl) rfl rfl (fun wh hS => hS.1.int 8 (by decide)) isInt3) hHeld ?_
  show wpAnyH _ _ _ _ _ _ _ (Act.put _ (some 14) _) _
  simp only [Act.put, List.setIfInBounds_toArray, List.set_cons_zero, List.set_cons_succ]
  refine wpAnyH_take (i := 13) (v := .int .i64 0) rfl (by kernel_rfl) (by kernel_rfl) (by kernel_rfl) (fun _ _ _ h => h) (Or.inl ⟨by rfl, fun _ _ => rfl⟩) hHeld ?_
  show wpAnyH _ _ _ _ _ _ _ (Act.put _ (some 18) _) _
  simp only [Act.put, List.setIfInBounds_toArray, List.set_cons_zero, List.set_cons_succ]
  refine wpAnyH_all (rs := [10]) (by kernel_rfl) (by simp) (fun i hi' => ?_)
  obtain rfl : i = 10 := by simpa using hi'
  clear hi'
  refine draw_val _ (v := .slice (some ⟨w.heap.size + 1, 0, none⟩) 3 3) (w' := ((w.alloc (.cells (ccs p) 25)).drew).alloc (.cells #[.int .i64 (p.f 9), .int .i64 (p.f 10), .int .i64 (p.f 11)] 3)) rfl (by rfl) (by simp [execOp, go_sem, Act.eval]) ⟨⟨hHeld.1.alloc _, hHeld.2.alloc hHeld.2.size _⟩, ?_⟩
  have hHeld := And.intro (hHeld.1.alloc (.cells #[.int .i64 (p.f 9), .int .i64 (p.f 10), .int .i64 (p.f 11)] 3)) (hHeld.2.alloc hHeld.2.size (.cells #[.int .i64 (p.f 9), .int .i64 (p.f 10), .int .i64 (p.f 11)] 3))
  show wpAnyH _ _ _ _ _ _ _ (Act.put _ (some 15) _) _
  simp only [Act.put, List.setIfInBounds_toArray, List.set_cons_zero, List.set_cons_succ]
  refine wpAnyH_all (rs := [11]) (by kernel_rfl) (by simp) (fun i hi' => ?_)
  obtain rfl : i = 11 := by simpa using hi'
  clear hi'
  obtain ⟨v', w', hrun, hown, hgrow⟩ := run_append_arg_grows (P := Try.prog) (((w.alloc (.cells (ccs p) 25)).drew).alloc (.cells #[.int .i64 (p.f 9), .int .i64 (p.f 10), .int .i64 (p.f 11)] 3)) 38 38 3 i0 (.int .i64 0) 1 8 Try.underlying38 hi hz0 hz1 hz2 rfl (by decide) ⟨w.heap.size, 0, none⟩ 6 6 ((List.range 6).map fun j => .int .i64 (p.f (3 + j))) (by simp) (fun j u hj => by rw [Addr.add_lit, Nat.zero_add]; exact six_cell hHeld.1 j u hj) ⟨w.heap.size + 1, 0, none⟩ 3 3 [.int .i64 (p.f 9), .int .i64 (p.f 10), .int .i64 (p.f 11)] rfl (fun j u hj => by rw [Addr.add_lit, Nat.zero_add, cell_of_row _ _ _ _ _ _ (hnew _)]; simpa using hj) (by decide) (by unfold maxLen; omega) (by omega)
  have hbl := hHeld.2.grown hgrow hHeld.2.size (by simp)
  have hcb : CBlk w' w.heap.size p := by unfold CBlk; rw [hgrow.block _ (by simp; omega) (by simp)]; exact hHeld.1
  have hHeld := And.intro hcb hbl
  obtain ⟨g, cap, rfl, hg, hg2, hr9⟩ := row9 hown
  refine draw_val _ (v := .slice (some ⟨g, 0, none⟩) 9 cap) (w' := w') rfl (by rfl) (by simp [execOp, resolve, invoke, builtin, Deferred.ofValue, Act.eval, hrun, Result.andThen]) ⟨hHeld, ?_⟩
  clear hrun hown hgrow hbl hcb
  show wpAnyH _ _ _ _ _ _ _ (Act.put _ (some 16) _) _
  simp only [Act.put, List.setIfInBounds_toArray, List.set_cons_zero, List.set_cons_succ]
  refine wpAnyH_take (i := 12) (v := .int .i64 9) rfl (by kernel_rfl) (by kernel_rfl) (by kernel_rfl) (fun _ _ _ h => h) (Or.inl ⟨by rfl, fun _ _ => by kernel_rfl⟩) hHeld ?_
  show wpAnyH _ _ _ _ _ _ _ (Act.put _ (some 17) _) _
  simp only [Act.put, List.setIfInBounds_toArray, List.set_cons_zero, List.set_cons_succ]
  refine wpAnyH_done (by kernel_rfl) ?_ _
  clear hS0 hnew hi
  have hr := hidI hr9; clear hr9
  obtain ⟨hcb, hbel⟩ := hHeld
  have hBB := hidI hbel; clear hbel
  go_wp2
  go_loopw [18] (fun v wr => ∃ k : Nat, k ≤ 9 ∧ v = .int .i64 k ∧ R9 wr g p ∧ CBlk wr w.heap.size p ∧ Below w.heap.size w wr ∧ Hid (allB (rgs p) k = true)) (fun v _ => 9 - (intOf v).toNat)
  case atStart => exact ⟨0, by omega, rfl, hr.out, hcb, hBB.out, rfl⟩
  case round =>
    clear hr hcb hBB
    obtain ⟨k, hk, rfl, hr, hcb, hbel, hv⟩ := hrel
    have HB := hidI hbel; clear hbel
    by_cases hk9 : k < 9
    · have hlt : (k : Int) < 9 := by omega
      have hlo : (0 : Int) ≤ k := by omega
      have hcg := hr k hk9
      have HR := hidI hr; clear hr
      have hs := allB_succ (rgs p) k
      have hff := allB_false (rgs p) 9 k hk9
      have hw : ∀ W, Calls Try.prog 31 #[.int .i64 (p.f (3 + k)), .int .i64 0, .int .i64 65535] W fun e w' => e = .returned (.bool (rgs p k)) ∧ w' = W := fun W => from_b _ _ _ W
      cases hq : rgs p k
      · simp only [hq] at hw
        have HF : Hid (regsB p = false) := by unfold Hid regsB; rw [hff hq]; rfl
        clear hs hff hv hq
        go_wp2_with (first | (go_at_call 31; refine (hw _).mono ?_; rintro e w2 ⟨rfl, rfl⟩))
        go_ret
        exact ⟨ret_bool HF.out.symm, HB.out⟩
      · simp only [hq] at hw
        have HS : Hid (allB (rgs p) (k + 1) = true) := by rw [Hid, hs, hv.out, hq]; rfl
        clear hs hff hv hq
        go_wp2_with (first | (go_at_call 31; refine (hw _).mono ?_; rintro e w2 ⟨rfl, rfl⟩))
        go_roundw
        case measure => simp [intOf]; omega
        case rel => exact ⟨k + 1, by omega, by go_num, HR.out, hcb, HB.out, HS⟩
    · obtain rfl : k = 9 := by omega
      rw [show ((9 : Nat) : Int) = 9 from rfl]
      have c9 := hcb.int 9 (by decide)
      have hE : regsB p = rg 49152 49183 (p.f 12) := by unfold regsB; rw [hv.out]; rfl
      have HE := hidI hE; clear hE hr
      go_wp2_with (first | (go_at_call 31; refine (from_b _ _ _ _).mono ?_; rintro e w2 ⟨rfl, rfl⟩))
      go_ret
      exact ⟨ret_bool HE.out.symm, HB.out⟩
end Go.Proofs.Ytnnknhcdnklalaa.A
