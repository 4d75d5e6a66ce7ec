/- The laws SchedRights, SchedEnds, SchedFinds, SchedWakes and SchedReaps: each call returns true. No condition. -/
import Derived.Test.YtnnknhcdnklalaaF20
namespace Go.Proofs.Ytnnknhcdnklalaa.A
open Go Go.RowKit
set_option linter.unusedSimpArgs false
set_option linter.unusedVariables false
theorem yieldsIf_eql29 {ops : Array Oper} {S : World → Prop} {o : Oper} {a : Act} {x y : Operand} {t : Nat → Pr} (hw : Region.wanted o (yielded ops a.tmps) = true) (ho : o.op = .binOp .eql 29 x y 29) (hx : a.eval x = .agg (tcs t)) (hy : a.eval y = .agg (tcs t)) : YieldsIf Try.prog ops S o (.bool true) a :=
  Or.inl ⟨hw, fun w _ => by
    unfold execOp
    simp only [ho, hx, hy, Sem.run_bind, run_eqGuard_agg w .eql 29 x y _ _ guard29, run_eql_struct, Result.andThen_ok, Sem.run_pure, eq29_v]⟩
set_option maxHeartbeats 4000000 in
set_option maxRecDepth 100000 in
theorem lawRights_v (t : Nat → Pr) (w : World) : Calls Try.prog 3 #[.agg (tcs t)] w fun e w' => e = .returned (.bool true) ∧ Below w.heap.size w w' := by
  go_enter Try.func3, Try.ntmps3
  go_wp2
  refine wp_region_held_drew (S := fun wh => Blk wh w.heap.size t ∧ Below w.heap.size w wh) (by kernel_rfl) (⟨(Blk.new w t).drew, ((Below.refl _ _).alloc (Nat.le_refl _) _).drew⟩) (fun hHeld => ?_)
  show wpAnyH _ _ _ _ _ (8 + 1) #[false, false, false, false, false, false, false, false, false] _ _
  refine wpAnyH_take (i := 0) (v := .agg (tcs t)) rfl (by kernel_rfl) (by kernel_rfl) (by kernel_rfl) (fun _ _ _ h => h) (yieldsIf_row (by rfl) rfl rfl (fun wh hS => hS.1.whole) Try.underlying29 rfl (info29l t)) hHeld ?_
  show wpAnyH _ _ _ _ _ _ _ (Act.put _ (some 3) _) _
  simp only [Act.put, List.setIfInBounds_toArray, List.set_cons_zero, List.set_cons_succ]
  refine wpAnyH_take (i := 2) (v := .agg (tcs t)) rfl (by kernel_rfl) (by kernel_rfl) (by kernel_rfl) (fun _ _ _ h => h) (yieldsIf_row (by rfl) rfl rfl (fun wh hS => hS.1.whole) Try.underlying29 rfl (info29l t)) hHeld ?_
  show wpAnyH _ _ _ _ _ _ _ (Act.put _ (some 5) _) _
  simp only [Act.put, List.setIfInBounds_toArray, List.set_cons_zero, List.set_cons_succ]
  refine wpAnyH_all (rs := [1]) (by kernel_rfl) (by simp) (fun i hi' => ?_)
  obtain rfl : i = 1 := by simpa using hi'
  clear hi'
  refine draw_call _ 11 #[.agg (tcs t)] rfl (by rfl) (by kernel_rfl) ((right_v t _).mono ?_)
  rintro e wn ⟨rfl, hbn⟩
  have hHeld := And.intro (hHeld.1.below hbn hHeld.1.lt) (hHeld.2.trans (hbn.mono hHeld.2.size))
  refine ⟨_, rfl, hHeld, ?_⟩
  clear hbn
  show wpAnyH _ _ _ _ _ _ _ (Act.put _ (some 4) _) _
  simp only [Act.put, List.setIfInBounds_toArray, List.set_cons_zero, List.set_cons_succ]
  refine wpAnyH_all (rs := [3]) (by kernel_rfl) (by simp) (fun i hi' => ?_)
  obtain rfl : i = 3 := by simpa using hi'
  clear hi'
  refine draw_call _ 12 #[.agg (tcs t)] rfl (by rfl) (by kernel_rfl) ((rright_v t _).mono ?_)
  rintro e wn ⟨rfl, hbn⟩
  have hHeld := And.intro (hHeld.1.below hbn hHeld.1.lt) (hHeld.2.trans (hbn.mono hHeld.2.size))
  refine ⟨_, rfl, hHeld, ?_⟩
  clear hbn
  show wpAnyH _ _ _ _ _ _ _ (Act.put _ (some 6) _) _
  simp only [Act.put, List.setIfInBounds_toArray, List.set_cons_zero, List.set_cons_succ]
  refine wpAnyH_take (i := 4) (v := .bool true) rfl (by kernel_rfl) (by kernel_rfl) (by kernel_rfl) (fun _ _ _ h => h) (yb (b := (rightB t) == (rightB t)) (by rfl) (fun _ _ => rfl) (beq_self_eq_true _)) hHeld ?_
  show wpAnyH _ _ _ _ _ _ _ (Act.put _ (some 7) _) _
  simp only [Act.put, List.setIfInBounds_toArray, List.set_cons_zero, List.set_cons_succ]
  refine wpAnyH_take (i := 5) (v := .bool true) rfl (by kernel_rfl) (by kernel_rfl) (by kernel_rfl) (fun _ _ _ h => h) (Or.inl ⟨by rfl, fun _ _ => rfl⟩) hHeld ?_
  show wpAnyH _ _ _ _ _ _ _ (Act.put _ (some 8) _) _
  simp only [Act.put, List.setIfInBounds_toArray, List.set_cons_zero, List.set_cons_succ]
  refine wpAnyH_all (rs := [6]) (by kernel_rfl) (by simp) (fun i hi' => ?_)
  obtain rfl : i = 6 := by simpa using hi'
  clear hi'
  refine draw_call _ 13 #[] rfl (by rfl) (by kernel_rfl) ((alive_v _).mono ?_)
  rintro e wn ⟨rfl, hbn⟩
  have hHeld := And.intro (hHeld.1.below hbn hHeld.1.lt) (hHeld.2.trans (hbn.mono hHeld.2.size))
  refine ⟨_, rfl, hHeld, ?_⟩
  clear hbn
  show wpAnyH _ _ _ _ _ _ _ (Act.put _ (some 9) _) _
  simp only [Act.put, List.setIfInBounds_toArray, List.set_cons_zero, List.set_cons_succ]
  refine wpAnyH_take (i := 7) (v := .bool true) rfl (by kernel_rfl) (by kernel_rfl) (by kernel_rfl) (fun _ _ _ h => h) (Or.inl ⟨by rfl, fun _ _ => rfl⟩) hHeld ?_
  show wpAnyH _ _ _ _ _ _ _ (Act.put _ (some 10) _) _
  simp only [Act.put, List.setIfInBounds_toArray, List.set_cons_zero, List.set_cons_succ]
  refine wpAnyH_take (i := 8) (v := .bool true) rfl (by kernel_rfl) (by kernel_rfl) (by kernel_rfl) (fun _ _ _ h => h) (Or.inl ⟨by rfl, fun _ _ => rfl⟩) hHeld ?_
  show wpAnyH _ _ _ _ _ _ _ (Act.put _ (some 2) _) _
  simp only [Act.put, List.setIfInBounds_toArray, List.set_cons_zero, List.set_cons_succ]
  refine wpAnyH_done (by kernel_rfl) ?_ _
  go_wp2
  go_ret
  exact ⟨rfl, hHeld.2⟩
set_option maxHeartbeats 4000000 in
set_option maxRecDepth 100000 in
theorem lawEnds_v (t : Nat → Pr) (n : Int) (m : Int) (w : World) : Calls Try.prog 4 #[.agg (tcs t), .int .i64 n, .int .i64 m] w fun e w' => e = .returned (.bool true) ∧ Below w.heap.size w w' := by
  go_enter Try.func4, Try.ntmps4
  go_wp2
  refine wp_region_held_drew (S := fun wh => Blk wh w.heap.size t ∧ Below w.heap.size w wh) (by kernel_rfl) (⟨(Blk.new w t).drew, ((Below.refl _ _).alloc (Nat.le_refl _) _).drew⟩) (fun hHeld => ?_)
  show wpAnyH _ _ _ _ _ (12 + 1) #[false, false, false, false, false, false, false, false, false, false, false, false, false] _ _
  refine wpAnyH_take (i := 0) (v := .agg (tcs t)) rfl (by kernel_rfl) (by kernel_rfl) (by kernel_rfl) (fun _ _ _ h => h) (yieldsIf_row (by rfl) rfl rfl (fun wh hS => hS.1.whole) Try.underlying29 rfl (info29l t)) hHeld ?_
  show wpAnyH _ _ _ _ _ _ _ (Act.put _ (some 7) _) _
  simp only [Act.put, List.setIfInBounds_toArray, List.set_cons_zero, List.set_cons_succ]
  refine wpAnyH_take (i := 1) (v := .int .i64 n) rfl (by kernel_rfl) (by kernel_rfl) (by kernel_rfl) (fun _ _ _ h => h) (Or.inl ⟨by rfl, fun _ _ => rfl⟩) hHeld ?_
  show wpAnyH _ _ _ _ _ _ _ (Act.put _ (some 8) _) _
  simp only [Act.put, List.setIfInBounds_toArray, List.set_cons_zero, List.set_cons_succ]
  refine wpAnyH_take (i := 2) (v := .int .i64 m) rfl (by kernel_rfl) (by kernel_rfl) (by kernel_rfl) (fun _ _ _ h => h) (Or.inl ⟨by rfl, fun _ _ => rfl⟩) hHeld ?_
  show wpAnyH _ _ _ _ _ _ _ (Act.put _ (some 9) _) _
  simp only [Act.put, List.setIfInBounds_toArray, List.set_cons_zero, List.set_cons_succ]
  refine wpAnyH_take (i := 4) (v := .agg (tcs t)) rfl (by kernel_rfl) (by kernel_rfl) (by kernel_rfl) (fun _ _ _ h => h) (yieldsIf_row (by rfl) rfl rfl (fun wh hS => hS.1.whole) Try.underlying29 rfl (info29l t)) hHeld ?_
  show wpAnyH _ _ _ _ _ _ _ (Act.put _ (some 11) _) _
  simp only [Act.put, List.setIfInBounds_toArray, List.set_cons_zero, List.set_cons_succ]
  refine wpAnyH_take (i := 5) (v := .int .i64 n) rfl (by kernel_rfl) (by kernel_rfl) (by kernel_rfl) (fun _ _ _ h => h) (Or.inl ⟨by rfl, fun _ _ => rfl⟩) hHeld ?_
  show wpAnyH _ _ _ _ _ _ _ (Act.put _ (some 12) _) _
  simp only [Act.put, List.setIfInBounds_toArray, List.set_cons_zero, List.set_cons_succ]
  refine wpAnyH_take (i := 6) (v := .int .i64 m) rfl (by kernel_rfl) (by kernel_rfl) (by kernel_rfl) (fun _ _ _ h => h) (Or.inl ⟨by rfl, fun _ _ => rfl⟩) hHeld ?_
  show wpAnyH _ _ _ _ _ _ _ (Act.put _ (some 13) _) _
  simp only [Act.put, List.setIfInBounds_toArray, List.set_cons_zero, List.set_cons_succ]
  refine wpAnyH_all (rs := [3]) (by kernel_rfl) (by simp) (fun i hi' => ?_)
  obtain rfl : i = 3 := by simpa using hi'
  clear hi'
  refine draw_call _ 14 #[.agg (tcs t), .int .i64 n, .int .i64 m] rfl (by rfl) (by kernel_rfl) ((exit_v t n m _).mono ?_)
  rintro e wn ⟨rfl, hbn⟩
  have hHeld := And.intro (hHeld.1.below hbn hHeld.1.lt) (hHeld.2.trans (hbn.mono hHeld.2.size))
  refine ⟨_, rfl, hHeld, ?_⟩
  clear hbn
  show wpAnyH _ _ _ _ _ _ _ (Act.put _ (some 10) _) _
  simp only [Act.put, List.setIfInBounds_toArray, List.set_cons_zero, List.set_cons_succ]
  refine wpAnyH_all (rs := [7]) (by kernel_rfl) (by simp) (fun i hi' => ?_)
  obtain rfl : i = 7 := by simpa using hi'
  clear hi'
  refine draw_call _ 15 #[.agg (tcs t), .int .i64 n, .int .i64 m] rfl (by rfl) (by kernel_rfl) ((rexit_v t n m _).mono ?_)
  rintro e wn ⟨rfl, hbn⟩
  have hHeld := And.intro (hHeld.1.below hbn hHeld.1.lt) (hHeld.2.trans (hbn.mono hHeld.2.size))
  refine ⟨_, rfl, hHeld, ?_⟩
  clear hbn
  show wpAnyH _ _ _ _ _ _ _ (Act.put _ (some 14) _) _
  simp only [Act.put, List.setIfInBounds_toArray, List.set_cons_zero, List.set_cons_succ]
  refine wpAnyH_take (i := 8) (v := .bool true) rfl (by kernel_rfl) (by kernel_rfl) (by kernel_rfl) (fun _ _ _ h => h) (yieldsIf_eql29 (by rfl) rfl rfl rfl) hHeld ?_
  show wpAnyH _ _ _ _ _ _ _ (Act.put _ (some 15) _) _
  simp only [Act.put, List.setIfInBounds_toArray, List.set_cons_zero, List.set_cons_succ]
  refine wpAnyH_take (i := 9) (v := .bool true) rfl (by kernel_rfl) (by kernel_rfl) (by kernel_rfl) (fun _ _ _ h => h) (Or.inl ⟨by rfl, fun _ _ => rfl⟩) hHeld ?_
  show wpAnyH _ _ _ _ _ _ _ (Act.put _ (some 16) _) _
  simp only [Act.put, List.setIfInBounds_toArray, List.set_cons_zero, List.set_cons_succ]
  refine wpAnyH_all (rs := [10]) (by kernel_rfl) (by simp) (fun i hi' => ?_)
  obtain rfl : i = 10 := by simpa using hi'
  clear hi'
  refine draw_call _ 13 #[] rfl (by rfl) (by kernel_rfl) ((alive_v _).mono ?_)
  rintro e wn ⟨rfl, hbn⟩
  have hHeld := And.intro (hHeld.1.below hbn hHeld.1.lt) (hHeld.2.trans (hbn.mono hHeld.2.size))
  refine ⟨_, rfl, hHeld, ?_⟩
  clear hbn
  show wpAnyH _ _ _ _ _ _ _ (Act.put _ (some 17) _) _
  simp only [Act.put, List.setIfInBounds_toArray, List.set_cons_zero, List.set_cons_succ]
  refine wpAnyH_take (i := 11) (v := .bool true) rfl (by kernel_rfl) (by kernel_rfl) (by kernel_rfl) (fun _ _ _ h => h) (Or.inl ⟨by rfl, fun _ _ => rfl⟩) hHeld ?_
  show wpAnyH _ _ _ _ _ _ _ (Act.put _ (some 18) _) _
  simp only [Act.put, List.setIfInBounds_toArray, List.set_cons_zero, List.set_cons_succ]
  refine wpAnyH_take (i := 12) (v := .bool true) rfl (by kernel_rfl) (by kernel_rfl) (by kernel_rfl) (fun _ _ _ h => h) (Or.inl ⟨by rfl, fun _ _ => rfl⟩) hHeld ?_
  show wpAnyH _ _ _ _ _ _ _ (Act.put _ (some 6) _) _
  simp only [Act.put, List.setIfInBounds_toArray, List.set_cons_zero, List.set_cons_succ]
  refine wpAnyH_done (by kernel_rfl) ?_ _
  go_wp2
  go_ret
  exact ⟨rfl, hHeld.2⟩
set_option maxHeartbeats 4000000 in
set_option maxRecDepth 100000 in
theorem lawWakes_v (t : Nat → Pr) (n : Int) (m : Int) (w : World) : Calls Try.prog 9 #[.agg (tcs t), .int .i64 n, .int .i64 m] w fun e w' => e = .returned (.bool true) ∧ Below w.heap.size w w' := by
  go_enter Try.func9, Try.ntmps9
  go_wp2
  refine wp_region_held_drew (S := fun wh => Blk wh w.heap.size t ∧ Below w.heap.size w wh) (by kernel_rfl) (⟨(Blk.new w t).drew, ((Below.refl _ _).alloc (Nat.le_refl _) _).drew⟩) (fun hHeld => ?_)
  show wpAnyH _ _ _ _ _ (12 + 1) #[false, false, false, false, false, false, false, false, false, false, false, false, false] _ _
  refine wpAnyH_take (i := 0) (v := .agg (tcs t)) rfl (by kernel_rfl) (by kernel_rfl) (by kernel_rfl) (fun _ _ _ h => h) (yieldsIf_row (by rfl) rfl rfl (fun wh hS => hS.1.whole) Try.underlying29 rfl (info29l t)) hHeld ?_
  show wpAnyH _ _ _ _ _ _ _ (Act.put _ (some 7) _) _
  simp only [Act.put, List.setIfInBounds_toArray, List.set_cons_zero, List.set_cons_succ]
  refine wpAnyH_take (i := 1) (v := .int .i64 n) rfl (by kernel_rfl) (by kernel_rfl) (by kernel_rfl) (fun _ _ _ h => h) (Or.inl ⟨by rfl, fun _ _ => rfl⟩) hHeld ?_
  show wpAnyH _ _ _ _ _ _ _ (Act.put _ (some 8) _) _
  simp only [Act.put, List.setIfInBounds_toArray, List.set_cons_zero, List.set_cons_succ]
  refine wpAnyH_take (i := 2) (v := .int .i64 m) rfl (by kernel_rfl) (by kernel_rfl) (by kernel_rfl) (fun _ _ _ h => h) (Or.inl ⟨by rfl, fun _ _ => rfl⟩) hHeld ?_
  show wpAnyH _ _ _ _ _ _ _ (Act.put _ (some 9) _) _
  simp only [Act.put, List.setIfInBounds_toArray, List.set_cons_zero, List.set_cons_succ]
  refine wpAnyH_take (i := 4) (v := .agg (tcs t)) rfl (by kernel_rfl) (by kernel_rfl) (by kernel_rfl) (fun _ _ _ h => h) (yieldsIf_row (by rfl) rfl rfl (fun wh hS => hS.1.whole) Try.underlying29 rfl (info29l t)) hHeld ?_
  show wpAnyH _ _ _ _ _ _ _ (Act.put _ (some 11) _) _
  simp only [Act.put, List.setIfInBounds_toArray, List.set_cons_zero, List.set_cons_succ]
  refine wpAnyH_take (i := 5) (v := .int .i64 n) rfl (by kernel_rfl) (by kernel_rfl) (by kernel_rfl) (fun _ _ _ h => h) (Or.inl ⟨by rfl, fun _ _ => rfl⟩) hHeld ?_
  show wpAnyH _ _ _ _ _ _ _ (Act.put _ (some 12) _) _
  simp only [Act.put, List.setIfInBounds_toArray, List.set_cons_zero, List.set_cons_succ]
  refine wpAnyH_take (i := 6) (v := .int .i64 m) rfl (by kernel_rfl) (by kernel_rfl) (by kernel_rfl) (fun _ _ _ h => h) (Or.inl ⟨by rfl, fun _ _ => rfl⟩) hHeld ?_
  show wpAnyH _ _ _ _ _ _ _ (Act.put _ (some 13) _) _
  simp only [Act.put, List.setIfInBounds_toArray, List.set_cons_zero, List.set_cons_succ]
  refine wpAnyH_all (rs := [3]) (by kernel_rfl) (by simp) (fun i hi' => ?_)
  obtain rfl : i = 3 := by simpa using hi'
  clear hi'
  refine draw_call _ 26 #[.agg (tcs t), .int .i64 n, .int .i64 m] rfl (by rfl) (by kernel_rfl) ((wake_v t n m _).mono ?_)
  rintro e wn ⟨rfl, hbn⟩
  have hHeld := And.intro (hHeld.1.below hbn hHeld.1.lt) (hHeld.2.trans (hbn.mono hHeld.2.size))
  refine ⟨_, rfl, hHeld, ?_⟩
  clear hbn
  show wpAnyH _ _ _ _ _ _ _ (Act.put _ (some 10) _) _
  simp only [Act.put, List.setIfInBounds_toArray, List.set_cons_zero, List.set_cons_succ]
  refine wpAnyH_all (rs := [7]) (by kernel_rfl) (by simp) (fun i hi' => ?_)
  obtain rfl : i = 7 := by simpa using hi'
  clear hi'
  refine draw_call _ 27 #[.agg (tcs t), .int .i64 n, .int .i64 m] rfl (by rfl) (by kernel_rfl) ((rwake_v t n m _).mono ?_)
  rintro e wn ⟨rfl, hbn⟩
  have hHeld := And.intro (hHeld.1.below hbn hHeld.1.lt) (hHeld.2.trans (hbn.mono hHeld.2.size))
  refine ⟨_, rfl, hHeld, ?_⟩
  clear hbn
  show wpAnyH _ _ _ _ _ _ _ (Act.put _ (some 14) _) _
  simp only [Act.put, List.setIfInBounds_toArray, List.set_cons_zero, List.set_cons_succ]
  refine wpAnyH_take (i := 8) (v := .bool true) rfl (by kernel_rfl) (by kernel_rfl) (by kernel_rfl) (fun _ _ _ h => h) (yieldsIf_eql29 (by rfl) rfl rfl rfl) hHeld ?_
  show wpAnyH _ _ _ _ _ _ _ (Act.put _ (some 15) _) _
  simp only [Act.put, List.setIfInBounds_toArray, List.set_cons_zero, List.set_cons_succ]
  refine wpAnyH_take (i := 9) (v := .bool true) rfl (by kernel_rfl) (by kernel_rfl) (by kernel_rfl) (fun _ _ _ h => h) (Or.inl ⟨by rfl, fun _ _ => rfl⟩) hHeld ?_
  show wpAnyH _ _ _ _ _ _ _ (Act.put _ (some 16) _) _
  simp only [Act.put, List.setIfInBounds_toArray, List.set_cons_zero, List.set_cons_succ]
  refine wpAnyH_all (rs := [10]) (by kernel_rfl) (by simp) (fun i hi' => ?_)
  obtain rfl : i = 10 := by simpa using hi'
  clear hi'
  refine draw_call _ 13 #[] rfl (by rfl) (by kernel_rfl) ((alive_v _).mono ?_)
  rintro e wn ⟨rfl, hbn⟩
  have hHeld := And.intro (hHeld.1.below hbn hHeld.1.lt) (hHeld.2.trans (hbn.mono hHeld.2.size))
  refine ⟨_, rfl, hHeld, ?_⟩
  clear hbn
  show wpAnyH _ _ _ _ _ _ _ (Act.put _ (some 17) _) _
  simp only [Act.put, List.setIfInBounds_toArray, List.set_cons_zero, List.set_cons_succ]
  refine wpAnyH_take (i := 11) (v := .bool true) rfl (by kernel_rfl) (by kernel_rfl) (by kernel_rfl) (fun _ _ _ h => h) (Or.inl ⟨by rfl, fun _ _ => rfl⟩) hHeld ?_
  show wpAnyH _ _ _ _ _ _ _ (Act.put _ (some 18) _) _
  simp only [Act.put, List.setIfInBounds_toArray, List.set_cons_zero, List.set_cons_succ]
  refine wpAnyH_take (i := 12) (v := .bool true) rfl (by kernel_rfl) (by kernel_rfl) (by kernel_rfl) (fun _ _ _ h => h) (Or.inl ⟨by rfl, fun _ _ => rfl⟩) hHeld ?_
  show wpAnyH _ _ _ _ _ _ _ (Act.put _ (some 6) _) _
  simp only [Act.put, List.setIfInBounds_toArray, List.set_cons_zero, List.set_cons_succ]
  refine wpAnyH_done (by kernel_rfl) ?_ _
  go_wp2
  go_ret
  exact ⟨rfl, hHeld.2⟩
set_option maxHeartbeats 4000000 in
set_option maxRecDepth 100000 in
theorem lawFinds_v (t : Nat → Pr) (n : Int) (w : World) : Calls Try.prog 8 #[.agg (tcs t), .int .i64 n] w fun e w' => e = .returned (.bool true) ∧ Below w.heap.size w w' := by
  go_enter Try.func8, Try.ntmps8
  go_wp2
  refine wp_region_held_drew (S := fun wh => Blk wh w.heap.size t ∧ Below w.heap.size w wh) (by kernel_rfl) (⟨(Blk.new w t).drew, ((Below.refl _ _).alloc (Nat.le_refl _) _).drew⟩) (fun hHeld => ?_)
  show wpAnyH _ _ _ _ _ (35 + 1) #[false, false, false, false, false, false, false, false, false, false, false, false, false, false, false, false, false, false, false, false, false, false, false, false, false, false, false, false, false, false, false, false, false, false, false, false] _ _
  refine wpAnyH_take (i := 0) (v := .agg (tcs t)) rfl (by kernel_rfl) (by kernel_rfl) (by kernel_rfl) (fun _ _ _ h => h) (yieldsIf_row (by rfl) rfl rfl (fun wh hS => hS.1.whole) Try.underlying29 rfl (info29l t)) hHeld ?_
  show wpAnyH _ _ _ _ _ _ _ (Act.put _ (some 5) _) _
  simp only [Act.put, List.setIfInBounds_toArray, List.set_cons_zero, List.set_cons_succ]
  refine wpAnyH_take (i := 1) (v := .int .i64 n) rfl (by kernel_rfl) (by kernel_rfl) (by kernel_rfl) (fun _ _ _ h => h) (Or.inl ⟨by rfl, fun _ _ => rfl⟩) hHeld ?_
  show wpAnyH _ _ _ _ _ _ _ (Act.put _ (some 6) _) _
  simp only [Act.put, List.setIfInBounds_toArray, List.set_cons_zero, List.set_cons_succ]
  refine wpAnyH_take (i := 3) (v := .agg (tcs t)) rfl (by kernel_rfl) (by kernel_rfl) (by kernel_rfl) (fun _ _ _ h => h) (yieldsIf_row (by rfl) rfl rfl (fun wh hS => hS.1.whole) Try.underlying29 rfl (info29l t)) hHeld ?_
  show wpAnyH _ _ _ _ _ _ _ (Act.put _ (some 8) _) _
  simp only [Act.put, List.setIfInBounds_toArray, List.set_cons_zero, List.set_cons_succ]
  refine wpAnyH_take (i := 4) (v := .int .i64 n) rfl (by kernel_rfl) (by kernel_rfl) (by kernel_rfl) (fun _ _ _ h => h) (Or.inl ⟨by rfl, fun _ _ => rfl⟩) hHeld ?_
  show wpAnyH _ _ _ _ _ _ _ (Act.put _ (some 9) _) _
  simp only [Act.put, List.setIfInBounds_toArray, List.set_cons_zero, List.set_cons_succ]
  refine wpAnyH_all (rs := [2]) (by kernel_rfl) (by simp) (fun i hi' => ?_)
  obtain rfl : i = 2 := by simpa using hi'
  clear hi'
  refine draw_call _ 19 #[.agg (tcs t), .int .i64 n] rfl (by rfl) (by kernel_rfl) ((find_v t n _).mono ?_)
  rintro e wn ⟨rfl, hbn⟩
  have hHeld := And.intro (hHeld.1.below hbn hHeld.1.lt) (hHeld.2.trans (hbn.mono hHeld.2.size))
  refine ⟨_, rfl, hHeld, ?_⟩
  clear hbn
  show wpAnyH _ _ _ _ _ _ _ (Act.put _ (some 7) _) _
  simp only [Act.put, List.setIfInBounds_toArray, List.set_cons_zero, List.set_cons_succ]
  refine wpAnyH_all (rs := [5]) (by kernel_rfl) (by simp) (fun i hi' => ?_)
  obtain rfl : i = 5 := by simpa using hi'
  clear hi'
  refine draw_call _ 20 #[.agg (tcs t), .int .i64 n] rfl (by rfl) (by kernel_rfl) ((rfind_v t n _).mono ?_)
  rintro e wn ⟨rfl, hbn⟩
  have hHeld := And.intro (hHeld.1.below hbn hHeld.1.lt) (hHeld.2.trans (hbn.mono hHeld.2.size))
  refine ⟨_, rfl, hHeld, ?_⟩
  clear hbn
  show wpAnyH _ _ _ _ _ _ _ (Act.put _ (some 10) _) _
  simp only [Act.put, List.setIfInBounds_toArray, List.set_cons_zero, List.set_cons_succ]
  refine wpAnyH_take (i := 6) (v := .bool true) rfl (by kernel_rfl) (by kernel_rfl) (by kernel_rfl) (fun _ _ _ h => h) (yb (b := (scan (fun i => (t i).f 2 != 0 && (t i).f 0 == n) 0 8) == (scan (fun i => (t i).f 2 != 0 && (t i).f 0 == n) 0 8)) (by rfl) (fun _ _ => rfl) (beq_self_eq_true _)) hHeld ?_
  show wpAnyH _ _ _ _ _ _ _ (Act.put _ (some 11) _) _
  simp only [Act.put, List.setIfInBounds_toArray, List.set_cons_zero, List.set_cons_succ]
  refine wpAnyH_take (i := 7) (v := .bool true) rfl (by kernel_rfl) (by kernel_rfl) (by kernel_rfl) (fun _ _ _ h => h) (Or.inl ⟨by rfl, fun _ _ => rfl⟩) hHeld ?_
  show wpAnyH _ _ _ _ _ _ _ (Act.put _ (some 12) _) _
  simp only [Act.put, List.setIfInBounds_toArray, List.set_cons_zero, List.set_cons_succ]
  refine wpAnyH_take (i := 8) (v := .agg (tcs t)) rfl (by kernel_rfl) (by kernel_rfl) (by kernel_rfl) (fun _ _ _ h => h) (yieldsIf_row (by rfl) rfl rfl (fun wh hS => hS.1.whole) Try.underlying29 rfl (info29l t)) hHeld ?_
  show wpAnyH _ _ _ _ _ _ _ (Act.put _ (some 13) _) _
  simp only [Act.put, List.setIfInBounds_toArray, List.set_cons_zero, List.set_cons_succ]
  refine wpAnyH_take (i := 10) (v := .agg (tcs t)) rfl (by kernel_rfl) (by kernel_rfl) (by kernel_rfl) (fun _ _ _ h => h) (yieldsIf_row (by rfl) rfl rfl (fun wh hS => hS.1.whole) Try.underlying29 rfl (info29l t)) hHeld ?_
  show wpAnyH _ _ _ _ _ _ _ (Act.put _ (some 15) _) _
  simp only [Act.put, List.setIfInBounds_toArray, List.set_cons_zero, List.set_cons_succ]
  refine wpAnyH_all (rs := [9]) (by kernel_rfl) (by simp) (fun i hi' => ?_)
  obtain rfl : i = 9 := by simpa using hi'
  clear hi'
  refine draw_call _ 21 #[.agg (tcs t)] rfl (by rfl) (by kernel_rfl) ((free_v t _).mono ?_)
  rintro e wn ⟨rfl, hbn⟩
  have hHeld := And.intro (hHeld.1.below hbn hHeld.1.lt) (hHeld.2.trans (hbn.mono hHeld.2.size))
  refine ⟨_, rfl, hHeld, ?_⟩
  clear hbn
  show wpAnyH _ _ _ _ _ _ _ (Act.put _ (some 14) _) _
  simp only [Act.put, List.setIfInBounds_toArray, List.set_cons_zero, List.set_cons_succ]
  refine wpAnyH_all (rs := [11]) (by kernel_rfl) (by simp) (fun i hi' => ?_)
  obtain rfl : i = 11 := by simpa using hi'
  clear hi'
  refine draw_call _ 22 #[.agg (tcs t)] rfl (by rfl) (by kernel_rfl) ((rfree_v t _).mono ?_)
  rintro e wn ⟨rfl, hbn⟩
  have hHeld := And.intro (hHeld.1.below hbn hHeld.1.lt) (hHeld.2.trans (hbn.mono hHeld.2.size))
  refine ⟨_, rfl, hHeld, ?_⟩
  clear hbn
  show wpAnyH _ _ _ _ _ _ _ (Act.put _ (some 16) _) _
  simp only [Act.put, List.setIfInBounds_toArray, List.set_cons_zero, List.set_cons_succ]
  refine wpAnyH_take (i := 12) (v := .bool true) rfl (by kernel_rfl) (by kernel_rfl) (by kernel_rfl) (fun _ _ _ h => h) (yb (b := (scan (fun i => (t i).f 2 == 0) 0 8) == (scan (fun i => (t i).f 2 == 0) 0 8)) (by rfl) (fun _ _ => rfl) (beq_self_eq_true _)) hHeld ?_
  show wpAnyH _ _ _ _ _ _ _ (Act.put _ (some 17) _) _
  simp only [Act.put, List.setIfInBounds_toArray, List.set_cons_zero, List.set_cons_succ]
  refine wpAnyH_take (i := 13) (v := .bool true) rfl (by kernel_rfl) (by kernel_rfl) (by kernel_rfl) (fun _ _ _ h => h) (Or.inl ⟨by rfl, fun _ _ => rfl⟩) hHeld ?_
  show wpAnyH _ _ _ _ _ _ _ (Act.put _ (some 18) _) _
  simp only [Act.put, List.setIfInBounds_toArray, List.set_cons_zero, List.set_cons_succ]
  refine wpAnyH_take (i := 14) (v := .bool true) rfl (by kernel_rfl) (by kernel_rfl) (by kernel_rfl) (fun _ _ _ h => h) (Or.inl ⟨by rfl, fun _ _ => rfl⟩) hHeld ?_
  show wpAnyH _ _ _ _ _ _ _ (Act.put _ (some 19) _) _
  simp only [Act.put, List.setIfInBounds_toArray, List.set_cons_zero, List.set_cons_succ]
  refine wpAnyH_take (i := 15) (v := .agg (tcs t)) rfl (by kernel_rfl) (by kernel_rfl) (by kernel_rfl) (fun _ _ _ h => h) (yieldsIf_row (by rfl) rfl rfl (fun wh hS => hS.1.whole) Try.underlying29 rfl (info29l t)) hHeld ?_
  show wpAnyH _ _ _ _ _ _ _ (Act.put _ (some 20) _) _
  simp only [Act.put, List.setIfInBounds_toArray, List.set_cons_zero, List.set_cons_succ]
  refine wpAnyH_take (i := 16) (v := .int .i64 n) rfl (by kernel_rfl) (by kernel_rfl) (by kernel_rfl) (fun _ _ _ h => h) (Or.inl ⟨by rfl, fun _ _ => rfl⟩) hHeld ?_
  show wpAnyH _ _ _ _ _ _ _ (Act.put _ (some 21) _) _
  simp only [Act.put, List.setIfInBounds_toArray, List.set_cons_zero, List.set_cons_succ]
  refine wpAnyH_take (i := 18) (v := .agg (tcs t)) rfl (by kernel_rfl) (by kernel_rfl) (by kernel_rfl) (fun _ _ _ h => h) (yieldsIf_row (by rfl) rfl rfl (fun wh hS => hS.1.whole) Try.underlying29 rfl (info29l t)) hHeld ?_
  show wpAnyH _ _ _ _ _ _ _ (Act.put _ (some 23) _) _
  simp only [Act.put, List.setIfInBounds_toArray, List.set_cons_zero, List.set_cons_succ]
  refine wpAnyH_take (i := 19) (v := .int .i64 n) rfl (by kernel_rfl) (by kernel_rfl) (by kernel_rfl) (fun _ _ _ h => h) (Or.inl ⟨by rfl, fun _ _ => rfl⟩) hHeld ?_
  show wpAnyH _ _ _ _ _ _ _ (Act.put _ (some 24) _) _
  simp only [Act.put, List.setIfInBounds_toArray, List.set_cons_zero, List.set_cons_succ]
  refine wpAnyH_all (rs := [17]) (by kernel_rfl) (by simp) (fun i hi' => ?_)
  obtain rfl : i = 17 := by simpa using hi'
  clear hi'
  refine draw_call _ 18 #[.agg (tcs t), .int .i64 n] rfl (by rfl) (by kernel_rfl) ((next_v t n _).mono ?_)
  rintro e wn ⟨rfl, hbn⟩
  have hHeld := And.intro (hHeld.1.below hbn hHeld.1.lt) (hHeld.2.trans (hbn.mono hHeld.2.size))
  refine ⟨_, rfl, hHeld, ?_⟩
  clear hbn
  show wpAnyH _ _ _ _ _ _ _ (Act.put _ (some 22) _) _
  simp only [Act.put, List.setIfInBounds_toArray, List.set_cons_zero, List.set_cons_succ]
  refine wpAnyH_all (rs := [20]) (by kernel_rfl) (by simp) (fun i hi' => ?_)
  obtain rfl : i = 20 := by simpa using hi'
  clear hi'
  refine draw_call _ 23 #[.agg (tcs t), .int .i64 n] rfl (by rfl) (by kernel_rfl) ((rnext_v t n _).mono ?_)
  rintro e wn ⟨rfl, hbn⟩
  have hHeld := And.intro (hHeld.1.below hbn hHeld.1.lt) (hHeld.2.trans (hbn.mono hHeld.2.size))
  refine ⟨_, rfl, hHeld, ?_⟩
  clear hbn
  show wpAnyH _ _ _ _ _ _ _ (Act.put _ (some 25) _) _
  simp only [Act.put, List.setIfInBounds_toArray, List.set_cons_zero, List.set_cons_succ]
  refine wpAnyH_take (i := 21) (v := .bool true) rfl (by kernel_rfl) (by kernel_rfl) (by kernel_rfl) (fun _ _ _ h => h) (yb (b := (scan (fun i => (t i).f 2 == 1) (start n) 8) == (scan (fun i => (t i).f 2 == 1) (start n) 8)) (by rfl) (fun _ _ => rfl) (beq_self_eq_true _)) hHeld ?_
  show wpAnyH _ _ _ _ _ _ _ (Act.put _ (some 26) _) _
  simp only [Act.put, List.setIfInBounds_toArray, List.set_cons_zero, List.set_cons_succ]
  refine wpAnyH_take (i := 22) (v := .bool true) rfl (by kernel_rfl) (by kernel_rfl) (by kernel_rfl) (fun _ _ _ h => h) (Or.inl ⟨by rfl, fun _ _ => rfl⟩) hHeld ?_
  show wpAnyH _ _ _ _ _ _ _ (Act.put _ (some 27) _) _
  simp only [Act.put, List.setIfInBounds_toArray, List.set_cons_zero, List.set_cons_succ]
  refine wpAnyH_take (i := 23) (v := .bool true) rfl (by kernel_rfl) (by kernel_rfl) (by kernel_rfl) (fun _ _ _ h => h) (Or.inl ⟨by rfl, fun _ _ => rfl⟩) hHeld ?_
  show wpAnyH _ _ _ _ _ _ _ (Act.put _ (some 28) _) _
  simp only [Act.put, List.setIfInBounds_toArray, List.set_cons_zero, List.set_cons_succ]
  refine wpAnyH_take (i := 24) (v := .agg (tcs t)) rfl (by kernel_rfl) (by kernel_rfl) (by kernel_rfl) (fun _ _ _ h => h) (yieldsIf_row (by rfl) rfl rfl (fun wh hS => hS.1.whole) Try.underlying29 rfl (info29l t)) hHeld ?_
  show wpAnyH _ _ _ _ _ _ _ (Act.put _ (some 29) _) _
  simp only [Act.put, List.setIfInBounds_toArray, List.set_cons_zero, List.set_cons_succ]
  refine wpAnyH_take (i := 25) (v := .int .i64 n) rfl (by kernel_rfl) (by kernel_rfl) (by kernel_rfl) (fun _ _ _ h => h) (Or.inl ⟨by rfl, fun _ _ => rfl⟩) hHeld ?_
  show wpAnyH _ _ _ _ _ _ _ (Act.put _ (some 30) _) _
  simp only [Act.put, List.setIfInBounds_toArray, List.set_cons_zero, List.set_cons_succ]
  refine wpAnyH_take (i := 27) (v := .agg (tcs t)) rfl (by kernel_rfl) (by kernel_rfl) (by kernel_rfl) (fun _ _ _ h => h) (yieldsIf_row (by rfl) rfl rfl (fun wh hS => hS.1.whole) Try.underlying29 rfl (info29l t)) hHeld ?_
  show wpAnyH _ _ _ _ _ _ _ (Act.put _ (some 32) _) _
  simp only [Act.put, List.setIfInBounds_toArray, List.set_cons_zero, List.set_cons_succ]
  refine wpAnyH_take (i := 28) (v := .int .i64 n) rfl (by kernel_rfl) (by kernel_rfl) (by kernel_rfl) (fun _ _ _ h => h) (Or.inl ⟨by rfl, fun _ _ => rfl⟩) hHeld ?_
  show wpAnyH _ _ _ _ _ _ _ (Act.put _ (some 33) _) _
  simp only [Act.put, List.setIfInBounds_toArray, List.set_cons_zero, List.set_cons_succ]
  refine wpAnyH_all (rs := [26]) (by kernel_rfl) (by simp) (fun i hi' => ?_)
  obtain rfl : i = 26 := by simpa using hi'
  clear hi'
  refine draw_call _ 24 #[.agg (tcs t), .int .i64 n] rfl (by rfl) (by kernel_rfl) ((victim_v t n _).mono ?_)
  rintro e wn ⟨rfl, hbn⟩
  have hHeld := And.intro (hHeld.1.below hbn hHeld.1.lt) (hHeld.2.trans (hbn.mono hHeld.2.size))
  refine ⟨_, rfl, hHeld, ?_⟩
  clear hbn
  show wpAnyH _ _ _ _ _ _ _ (Act.put _ (some 31) _) _
  simp only [Act.put, List.setIfInBounds_toArray, List.set_cons_zero, List.set_cons_succ]
  refine wpAnyH_all (rs := [29]) (by kernel_rfl) (by simp) (fun i hi' => ?_)
  obtain rfl : i = 29 := by simpa using hi'
  clear hi'
  refine draw_call _ 25 #[.agg (tcs t), .int .i64 n] rfl (by rfl) (by kernel_rfl) ((rvictim_v t n _).mono ?_)
  rintro e wn ⟨rfl, hbn⟩
  have hHeld := And.intro (hHeld.1.below hbn hHeld.1.lt) (hHeld.2.trans (hbn.mono hHeld.2.size))
  refine ⟨_, rfl, hHeld, ?_⟩
  clear hbn
  show wpAnyH _ _ _ _ _ _ _ (Act.put _ (some 34) _) _
  simp only [Act.put, List.setIfInBounds_toArray, List.set_cons_zero, List.set_cons_succ]
  refine wpAnyH_take (i := 30) (v := .bool true) rfl (by kernel_rfl) (by kernel_rfl) (by kernel_rfl) (fun _ _ _ h => h) (yb (b := (victimS t n) == (victimS t n)) (by rfl) (fun _ _ => rfl) (beq_self_eq_true _)) hHeld ?_
  show wpAnyH _ _ _ _ _ _ _ (Act.put _ (some 35) _) _
  simp only [Act.put, List.setIfInBounds_toArray, List.set_cons_zero, List.set_cons_succ]
  refine wpAnyH_take (i := 31) (v := .bool true) rfl (by kernel_rfl) (by kernel_rfl) (by kernel_rfl) (fun _ _ _ h => h) (Or.inl ⟨by rfl, fun _ _ => rfl⟩) hHeld ?_
  show wpAnyH _ _ _ _ _ _ _ (Act.put _ (some 36) _) _
  simp only [Act.put, List.setIfInBounds_toArray, List.set_cons_zero, List.set_cons_succ]
  refine wpAnyH_take (i := 32) (v := .bool true) rfl (by kernel_rfl) (by kernel_rfl) (by kernel_rfl) (fun _ _ _ h => h) (Or.inl ⟨by rfl, fun _ _ => rfl⟩) hHeld ?_
  show wpAnyH _ _ _ _ _ _ _ (Act.put _ (some 37) _) _
  simp only [Act.put, List.setIfInBounds_toArray, List.set_cons_zero, List.set_cons_succ]
  refine wpAnyH_all (rs := [33]) (by kernel_rfl) (by simp) (fun i hi' => ?_)
  obtain rfl : i = 33 := by simpa using hi'
  clear hi'
  refine draw_call _ 13 #[] rfl (by rfl) (by kernel_rfl) ((alive_v _).mono ?_)
  rintro e wn ⟨rfl, hbn⟩
  have hHeld := And.intro (hHeld.1.below hbn hHeld.1.lt) (hHeld.2.trans (hbn.mono hHeld.2.size))
  refine ⟨_, rfl, hHeld, ?_⟩
  clear hbn
  show wpAnyH _ _ _ _ _ _ _ (Act.put _ (some 38) _) _
  simp only [Act.put, List.setIfInBounds_toArray, List.set_cons_zero, List.set_cons_succ]
  refine wpAnyH_take (i := 34) (v := .bool true) rfl (by kernel_rfl) (by kernel_rfl) (by kernel_rfl) (fun _ _ _ h => h) (Or.inl ⟨by rfl, fun _ _ => rfl⟩) hHeld ?_
  show wpAnyH _ _ _ _ _ _ _ (Act.put _ (some 39) _) _
  simp only [Act.put, List.setIfInBounds_toArray, List.set_cons_zero, List.set_cons_succ]
  refine wpAnyH_take (i := 35) (v := .bool true) rfl (by kernel_rfl) (by kernel_rfl) (by kernel_rfl) (fun _ _ _ h => h) (Or.inl ⟨by rfl, fun _ _ => rfl⟩) hHeld ?_
  show wpAnyH _ _ _ _ _ _ _ (Act.put _ (some 4) _) _
  simp only [Act.put, List.setIfInBounds_toArray, List.set_cons_zero, List.set_cons_succ]
  refine wpAnyH_done (by kernel_rfl) ?_ _
  go_wp2
  go_ret
  exact ⟨rfl, hHeld.2⟩
set_option maxHeartbeats 4000000 in
theorem lawReaps_v (t : Nat → Pr) (n : Int) (w : World) : Calls Try.prog 5 #[.agg (tcs t), .int .i64 n] w fun e w' => e = .returned (.bool true) ∧ Below w.heap.size w w' := by
  have hk0 := Blk.new w t
  have HB0 := hidI (Below.alloc (Below.refl w.heap.size w) (Nat.le_refl _) (.cells (tcs t) 29))
  have hr1 : ∀ W, Calls Try.prog 16 #[.agg (tcs t), .int .i64 n] W fun e w' => e = .returned (.tuple #[.agg (tcs (reapS t n).1), .int .i64 (reapS t n).2.1, .int .i64 (reapS t n).2.2.1, .int .i64 (reapS t n).2.2.2]) ∧ Below W.heap.size W w' := fun W => reap_v t n W
  have hr2 : ∀ W, Calls Try.prog 17 #[.agg (tcs t), .int .i64 n] W fun e w' => e = .returned (.tuple #[.agg (tcs (reapS t n).1), .int .i64 (reapS t n).2.1, .int .i64 (reapS t n).2.2.1, .int .i64 (reapS t n).2.2.2]) ∧ Below W.heap.size W w' := fun W => rreap_v t n W
  generalize reapS t n = r at *
  obtain ⟨r1, r2, r3, r4⟩ := r
  simp only at hr1 hr2
  go_enter Try.func5, Try.ntmps5
  go_wp2_with (first
    | ((with_reducible refine g_load 29 ?_ rfl); have _t := HB0; refine st_load29 (by rfl) rfl rfl hk0 ?_)
    | (go_at_call 16; refine (hr1 _).mono ?_; rintro e w1 ⟨rfl, hb⟩; have hk1 := hk0.below hb hk0.lt; have HB1 := hidI (HB0.out.trans (hb.mono HB0.out.size)); clear HB0 hb hk0)
    | ((with_reducible refine g_alloc 29 ?_ rfl); have _t := HB1; refine st_alloc29 (by rfl) rfl ?_; have hz := Blk.new w1 tz; have hk2 := hk1.alloc (.cells (tcs tz) 29); have hl1 := hk1.lt; have HB2 := hidI (HB1.out.alloc HB1.out.size (.cells (tcs tz) 29)); have hs1 := HB1.out.size; clear HB1 hk1)
    | ((with_reducible refine g_store 29 ?_ rfl); have _t := HB2; refine st_store29 (x := .tmp 5) (by rfl) rfl rfl rfl hz ?_; intro w2 ha2 hu; have hk3 := hu.blk hk2 (by omega); have HB3 := hidI (HB2.out.trans (hu.below hs1)); clear HB2 hu hz hk2)
    | ((with_reducible refine g_load 29 ?_ rfl); have _t := HB3; refine st_load29 (x := .tmp 2) (by rfl) rfl rfl hk3 ?_)
    | (go_at_call 17; refine (hr2 _).mono ?_; rintro e w3 ⟨rfl, hb⟩; have ha3 := ha2.below hb ha2.lt; have HB4 := hidI (HB3.out.trans (hb.mono HB3.out.size)); clear HB3 hb hk3 ha2)
    | ((with_reducible refine g_alloc 29 ?_ rfl); have _t := HB4; refine st_alloc29 (by rfl) rfl ?_; have hz := Blk.new w3 tz; have ha4 := ha3.alloc (.cells (tcs tz) 29); have hl3 := ha3.lt; have HB5 := hidI (HB4.out.alloc HB4.out.size (.cells (tcs tz) 29)); have hs3 := HB4.out.size; clear HB4 ha3)
    | ((with_reducible refine g_store 29 ?_ rfl); have _t := HB5; refine st_store29 (x := .tmp 9) (by rfl) rfl rfl rfl hz ?_; intro w4 hb4 hu; have ha5 := hu.blk ha4 (by omega); have HB6 := hidI (HB5.out.trans (hu.below hs3)); clear HB5 hu hz ha4)
    | ((with_reducible refine g_load 29 ?_ rfl); have _t := HB6; refine st_load29 (x := .tmp 5) (by rfl) rfl rfl ha5 ?_)
    | ((with_reducible refine g_load 29 ?_ rfl); have _t := HB6; refine st_load29 (x := .tmp 9) (by rfl) rfl rfl hb4 ?_)
    | ((with_reducible refine g_bin 29 ?_ rfl); refine st_eql29 (by rfl) rfl rfl rfl ?_)
    | (go_at_call 13; refine (alive_v _).mono ?_; rintro e w5 ⟨rfl, hb⟩; have HB7 := hidI (HB6.out.trans (hb.mono HB6.out.size)); clear HB6 hb))
  go_ret
  exact ⟨rfl, HB7.out⟩
end Go.Proofs.Ytnnknhcdnklalaa.A
