/- The example table, and the law's examples (alive): what each call returns. No condition. -/
import Derived.Test.YtnnknhcdnklalaaF18
namespace Go.Proofs.Ytnnknhcdnklalaa.A
open Go Go.RowKit
set_option linter.unusedSimpArgs false
set_option linter.unusedVariables false
def p0 : Pr := setf (setf (setf (setf (setf (setf zp 0 3) 2 2) 12 49152) 14 5) 24 1) 25 1
def p2 : Pr := setf (setf (setf (setf (setf (setf (setf zp 0 5) 1 3) 2 1) 12 49152) 13 5) 14 5) 24 1
def tabT : Nat → Pr := updT (updT tz 0 p0) 2 p2
def cpu0 : Value := .agg #[.int .i64 0, .int .i64 0, .int .i64 0, .int .i64 0, .int .i64 0, .int .i64 0, .int .i64 0, .int .i64 0, .int .i64 0, .int .i64 49152]
theorem buildP0 (w : World) : (Instr.build 28 #[(0, .int .i64 3), (2, .int .i64 2), (3, cpu0), (5, .int .i64 5), (8, .int .i64 1), (9, .int .i64 1)]).run Try.prog w = .ok (.agg (pcs p0)) w := by
  rw [pcs_lit]; kernel_rfl
theorem buildP2 (w : World) : (Instr.build 28 #[(0, .int .i64 5), (1, .int .i64 3), (2, .int .i64 1), (3, cpu0), (4, .int .i64 5), (5, .int .i64 5), (8, .int .i64 1)]).run Try.prog w = .ok (.agg (pcs p2)) w := by
  rw [pcs_lit]; kernel_rfl
def tabL : List Value := (List.range 232).map fun i => pc (tabT (i / 29)) (i % 29)
theorem tabL_tcs : tabL.toArray = tcs tabT := by
  refine tcs_ext (by simp [tabL]) fun k j hk hj => ?_
  unfold tabL
  rw [List.getElem?_toArray, List.getElem?_map, List.getElem?_range (by omega)]
  simp only [Option.map_some]
  rw [show (k * 29 + j) / 29 = k by omega, show (k * 29 + j) % 29 = j by omega]
theorem buildTab (w : World) : (Instr.build 29 #[(0, .agg (pcs p0)), (1, .agg (pcs zp)), (2, .agg (pcs p2))]).run Try.prog w = .ok (.agg (tcs tabT)) w := by
  rw [← tabL_tcs, pcs_lit p0, pcs_lit zp, pcs_lit p2]; kernel_rfl
theorem build25 (w : World) : (Instr.build 25 #[(3, .int .i64 49152)]).run Try.prog w = .ok cpu0 w := by kernel_rfl
section
variable {ops : Array Oper} {o : Oper} {rest : List Oper} {a : Act} {Q : Exit → Act → World → Prop} {w : World}
theorem st_bP0 {x3 : Operand} (ho : o.op = .build 28 #[(0, .const (.int .i64 3)), (2, .const (.int .i64 2)), (3, x3), (5, .const (.int .i64 5)), (8, .const (.int .i64 1)), (9, .const (.int .i64 1))]) (hw : Region.wanted o (yielded ops a.tmps) = true) (h3 : a.eval x3 = cpu0)
    (h : wpList Try.prog ops Q rest (a.put o.dst (.agg (pcs p0))) w) : wpList Try.prog ops Q (o :: rest) a w :=
  st_val hw (by unfold execOp; simp only [ho, List.map_toArray, List.map_cons, List.map_nil, Act.eval] at *; simp only [h3, Sem.run_bind, buildP0, Result.andThen_ok, Sem.run_pure]) h
theorem st_bP2 {x3 : Operand} (ho : o.op = .build 28 #[(0, .const (.int .i64 5)), (1, .const (.int .i64 3)), (2, .const (.int .i64 1)), (3, x3), (4, .const (.int .i64 5)), (5, .const (.int .i64 5)), (8, .const (.int .i64 1))]) (hw : Region.wanted o (yielded ops a.tmps) = true) (h3 : a.eval x3 = cpu0)
    (h : wpList Try.prog ops Q rest (a.put o.dst (.agg (pcs p2))) w) : wpList Try.prog ops Q (o :: rest) a w :=
  st_val hw (by unfold execOp; simp only [ho, List.map_toArray, List.map_cons, List.map_nil, Act.eval] at *; simp only [h3, Sem.run_bind, buildP2, Result.andThen_ok, Sem.run_pure]) h
theorem st_bTab {x0 x1 x2 : Operand} (ho : o.op = .build 29 #[(0, x0), (1, x1), (2, x2)]) (hw : Region.wanted o (yielded ops a.tmps) = true) (h0 : a.eval x0 = .agg (pcs p0)) (h1 : a.eval x1 = .agg (pcs zp)) (h2 : a.eval x2 = .agg (pcs p2))
    (h : wpList Try.prog ops Q rest (a.put o.dst (.agg (tcs tabT))) w) : wpList Try.prog ops Q (o :: rest) a w :=
  st_val hw (by unfold execOp; simp only [ho, List.map_toArray, List.map_cons, List.map_nil, h0, h1, h2, Sem.run_bind, buildTab, Result.andThen_ok, Sem.run_pure]) h
theorem st_b25 (ho : o.op = .build 25 #[(3, .const (.int .i64 49152))]) (hw : Region.wanted o (yielded ops a.tmps) = true)
    (h : wpList Try.prog ops Q rest (a.put o.dst cpu0) w) : wpList Try.prog ops Q (o :: rest) a w :=
  st_val hw (by unfold execOp; simp only [ho, List.map_toArray, List.map_cons, List.map_nil, Act.eval, Sem.run_bind, build25, Result.andThen_ok, Sem.run_pure]) h
end
set_option maxHeartbeats 4000000 in
theorem table_v (w : World) : Calls Try.prog 30 #[] w fun e w' => e = .returned (.agg (tcs tabT)) ∧ Below w.heap.size w w' := by
  have hz := (Blk.new w tz).alloc (.cells #[.int .i64 0, .int .i64 0, .int .i64 0, .int .i64 0, .int .i64 0, .int .i64 0, .int .i64 0, .int .i64 0, .int .i64 0, .int .i64 49152] 25)
  have hB := hidI (((Below.refl w.heap.size w).alloc (Nat.le_refl _) (.cells (tcs tz) 29)).alloc (by simp) (.cells #[.int .i64 0, .int .i64 0, .int .i64 0, .int .i64 0, .int .i64 0, .int .i64 0, .int .i64 0, .int .i64 0, .int .i64 0, .int .i64 49152] 25))
  have hz25 := Try.zeroValue25
  go_enter Try.func30, Try.ntmps30
  go_wp2_with (first
    | ((with_reducible refine g_alloc 29 ?_ rfl); refine st_alloc29 (by rfl) rfl ?_; try go_simp)
    | ((with_reducible refine g_build 28 ?_ rfl); refine st_bP0 rfl (by rfl) rfl ?_)
    | ((with_reducible refine g_build 28 ?_ rfl); refine st_build28 (by rfl) rfl ?_)
    | ((with_reducible refine g_build 28 ?_ rfl); refine st_bP2 rfl (by rfl) rfl ?_)
    | ((with_reducible refine g_build 29 ?_ rfl); refine st_bTab rfl (by rfl) rfl rfl rfl ?_)
    | ((with_reducible refine g_store 29 ?_ rfl); refine st_store29 (by rfl) rfl rfl rfl hz ?_; intro w2 hz2 hu2))
  exact bodyPost_ret (hz2.res rfl _ rfl) rfl ⟨rfl, hB.out.trans (hu2.below (Nat.le_refl _))⟩
def lT : Nat → Pr := exitT tabT 2 259
def mT : Nat → Pr := updT lT 2 zp
def xT : Nat → Pr := updT (updT (updT tz 1 (setf zp 2 1)) 4 (setf zp 2 1)) 6 (setf zp 2 2)
theorem lT2 : lT 2 = zomb 5 3 3 := by kernel_rfl
theorem reap1 : tup4 (reapS lT 3) = .tuple #[.agg (tcs mT), .int .i64 5, .int .i64 3, .int .i64 0] := by
  have : reapS lT 3 = (mT, 5, 3, 0) := by kernel_rfl
  rw [this]; rfl
theorem reap2 : tup4 (reapS mT 3) = .tuple #[.agg (tcs tz), .int .i64 0, .int .i64 0, .int .i64 25] := by
  have : reapS mT 3 = (tz, 0, 0, 25) := by kernel_rfl
  rw [this]; rfl
theorem valid_zp : validB zp = true := by unfold validB; rw [if_pos (show zp.f 2 = 0 from rfl)]; exact eqP_self zp
theorem valid_p0 : validB p0 = true := by
  unfold validB; rw [if_neg (by decide +kernel), if_neg (by decide +kernel)]; kernel_rfl
theorem valid_p2 : validB p2 = true := by
  unfold validB; rw [if_neg (by decide +kernel), if_neg (by decide +kernel)]; kernel_rfl
theorem rq0 : rightQ tabT 0 = true := by
  have e : rightQ tabT 0 = (validB p0 && !((tabT 0).f 2 != 0 && seen tabT 0 ((tabT 0).f 0))) := rfl
  rw [e, valid_p0]; rfl
theorem rq1 : rightQ tabT 1 = true := by
  have e : rightQ tabT 1 = (validB zp && !((tabT 1).f 2 != 0 && seen tabT 1 ((tabT 1).f 0))) := rfl
  rw [e, valid_zp]; rfl
theorem rq2 : rightQ tabT 2 = true := by
  have e : rightQ tabT 2 = (validB p2 && !((tabT 2).f 2 != 0 && seen tabT 2 ((tabT 2).f 0))) := rfl
  rw [e, valid_p2]; rfl
theorem rq3 : rightQ tabT 3 = true := by
  have e : rightQ tabT 3 = (validB zp && !((tabT 3).f 2 != 0 && seen tabT 3 ((tabT 3).f 0))) := rfl
  rw [e, valid_zp]; rfl
theorem rq4 : rightQ tabT 4 = true := by
  have e : rightQ tabT 4 = (validB zp && !((tabT 4).f 2 != 0 && seen tabT 4 ((tabT 4).f 0))) := rfl
  rw [e, valid_zp]; rfl
theorem rq5 : rightQ tabT 5 = true := by
  have e : rightQ tabT 5 = (validB zp && !((tabT 5).f 2 != 0 && seen tabT 5 ((tabT 5).f 0))) := rfl
  rw [e, valid_zp]; rfl
theorem rq6 : rightQ tabT 6 = true := by
  have e : rightQ tabT 6 = (validB zp && !((tabT 6).f 2 != 0 && seen tabT 6 ((tabT 6).f 0))) := rfl
  rw [e, valid_zp]; rfl
theorem rq7 : rightQ tabT 7 = true := by
  have e : rightQ tabT 7 = (validB zp && !((tabT 7).f 2 != 0 && seen tabT 7 ((tabT 7).f 0))) := rfl
  rw [e, valid_zp]; rfl
theorem right_tab : rightB tabT = true := allB_mk fun k hk => match k, hk with
  | 0, _ => rq0
  | 1, _ => rq1
  | 2, _ => rq2
  | 3, _ => rq3
  | 4, _ => rq4
  | 5, _ => rq5
  | 6, _ => rq6
  | 7, _ => rq7
  | k + 8, h => absurd h (by omega)
theorem nx1 : scan (fun i => (xT i).f 2 == 1) (start 1) 8 = 4 := by kernel_rfl
theorem nx4 : scan (fun i => (xT i).f 2 == 1) (start 4) 8 = 1 := by kernel_rfl
theorem nxm : scan (fun i => (xT i).f 2 == 1) (start (-1)) 8 = 1 := by kernel_rfl
theorem vx4 : victimS xT 4 = 6 := by kernel_rfl
theorem lT0 : (lT 0).f 2 = 1 := by kernel_rfl
theorem reap1_v (w : World) : Calls Try.prog 16 #[.agg (tcs lT), .int .i64 3] w fun e w' => e = .returned (.tuple #[.agg (tcs mT), .int .i64 5, .int .i64 3, .int .i64 0]) ∧ Below w.heap.size w w' := by
  have := reap_v lT 3 w; rw [reap1] at this; exact this
theorem reap2_v (w : World) : Calls Try.prog 16 #[.agg (tcs mT), .int .i64 3] w fun e w' => e = .returned (.tuple #[.agg (tcs tz), .int .i64 0, .int .i64 0, .int .i64 25]) ∧ Below w.heap.size w w' := by
  have := reap_v mT 3 w; rw [reap2] at this; exact this
theorem rtab_v (w : World) : Calls Try.prog 11 #[.agg (tcs tabT)] w fun e w' => e = .returned (.bool true) ∧ Below w.heap.size w w' := by
  have := right_v tabT w; rw [right_tab] at this; exact this
theorem nx1_v (w : World) : Calls Try.prog 18 #[.agg (tcs xT), .int .i64 1] w fun e w' => e = .returned (.int .i64 4) ∧ Below w.heap.size w w' := by
  have := next_v xT 1 w; rw [nx1] at this; exact this
theorem nx4_v (w : World) : Calls Try.prog 18 #[.agg (tcs xT), .int .i64 4] w fun e w' => e = .returned (.int .i64 1) ∧ Below w.heap.size w w' := by
  have := next_v xT 4 w; rw [nx4] at this; exact this
theorem nxm_v (w : World) : Calls Try.prog 18 #[.agg (tcs xT), .int .i64 (-1)] w fun e w' => e = .returned (.int .i64 1) ∧ Below w.heap.size w w' := by
  have := next_v xT (-1) w; rw [nxm] at this; exact this
theorem vx4_v (w : World) : Calls Try.prog 24 #[.agg (tcs xT), .int .i64 4] w fun e w' => e = .returned (.int .i64 6) ∧ Below w.heap.size w w' := by
  have := victim_v xT 4 w; rw [vx4] at this; exact this
theorem exit1_v (w : World) : Calls Try.prog 14 #[.agg (tcs tabT), .int .i64 2, .int .i64 259] w fun e w' => e = .returned (.agg (tcs lT)) ∧ Below w.heap.size w w' := exit_v tabT 2 259 w
theorem eq_l2 : eqP (lT 2) (zomb 5 3 3) = true := by rw [lT2]; exact eqP_self _
theorem xT_upd : updT (updT (updT tz 1 (setf (tz 1) 2 1)) 4 (setf (updT tz 1 (setf (tz 1) 2 1) 4) 2 1)) 6 (setf (updT (updT tz 1 (setf (tz 1) 2 1)) 4 (setf (updT tz 1 (setf (tz 1) 2 1) 4) 2 1) 6) 2 2) = xT := by kernel_rfl
end Go.Proofs.Ytnnknhcdnklalaa.A
