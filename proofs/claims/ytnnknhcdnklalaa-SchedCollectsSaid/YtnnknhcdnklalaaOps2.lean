/- Operations on whole processes and tables, continued: zero values, struct literals, indexes, equality. No condition but on the operands' form. -/
import Derived.Test.YtnnknhcdnklalaaOps
namespace Go.Proofs.Ytnnknhcdnklalaa.A
open Go Go.RowKit
set_option linter.unusedSimpArgs false
set_option linter.unusedVariables false
def zp : Pr := ⟨fun _ => 0, false⟩
def tz : Nat → Pr := fun _ => zp
def zl28 : List Value := [.int .i64 0, .int .i64 0, .int .i64 0, .int .i64 0, .int .i64 0, .int .i64 0, .int .i64 0, .int .i64 0, .int .i64 0, .int .i64 0, .int .i64 0, .int .i64 0, .int .i64 0, .int .i64 0, .int .i64 0, .bool false, .int .i64 0, .int .i64 0, .int .i64 0, .int .i64 0, .int .i64 0, .int .i64 0, .int .i64 0, .int .i64 0, .int .i64 0, .int .i64 0, .int .i64 0, .int .i64 0, .int .i64 0]
def zl29 : List Value := (List.replicate 8 zl28).flatten
theorem zl29_map : zl29 = (List.range 232).map fun i => pc zp (i % 29) := by kernel_rfl
theorem zl29_tcs : zl29.toArray = tcs tz := by
  refine tcs_ext (by rw [zl29_map]; simp) fun k j hk hj => ?_
  rw [zl29_map, List.getElem?_toArray, List.getElem?_map, List.getElem?_range (by omega)]
  simp only [Option.map_some, tz]
  rw [show (k * 29 + j) % 29 = j by omega]
theorem zl28_pcs : zl28.toArray = pcs zp := (pcs_lit zp).symm
theorem zero29 (w : World) : (zeroValue 29).run Try.prog w = .ok (.agg (tcs tz)) w := by
  rw [← zl29_tcs]; kernel_rfl
theorem zero28 (w : World) : (zeroValue 28).run Try.prog w = .ok (.agg (pcs zp)) w := by
  rw [← zl28_pcs]; kernel_rfl
theorem build29 (w : World) : (Instr.build 29 #[]).run Try.prog w = .ok (.agg (tcs tz)) w := by
  rw [← zl29_tcs]; kernel_rfl
theorem build28 (w : World) : (Instr.build 28 #[]).run Try.prog w = .ok (.agg (pcs zp)) w := by
  rw [← zl28_pcs]; kernel_rfl
/-- A process that has ended. -/
def zomb (pid par st : Int) : Pr := setf (setf (setf (setf zp 0 pid) 1 par) 2 3) 27 st
theorem buildZ (x y s : Int) (w : World) : (Instr.build 28 #[(0, .int .i64 x), (1, .int .i64 y), (2, .int .i64 3), (11, .int .i64 s)]).run Try.prog w = .ok (.agg (pcs (zomb x y s))) w := by
  rw [pcs_lit]; kernel_rfl
theorem extract_tcs (t : Nat → Pr) (k : Nat) (hk : k < 8) : (tcs t).extract (k * 29) (k * 29 + 29) = pcs (t k) := by
  refine pcs_ext (by simp [tcs_size]; omega) fun j hj => ?_
  rw [Array.getElem?_extract, tcs_size, if_pos (by omega), tcs_get t k j hk hj]
theorem part28 (t : Nat → Pr) (k : Nat) (hk : k < 8) (w : World) : (part 28 (tcs t) (k * 29)).run Try.prog w = .ok (.agg (pcs (t k))) w := by
  unfold part
  simp only [Sem.run_bind, Try.isAgg28, Result.andThen_ok, if_true, Try.sizeOf28, Sem.run_pure]
  rw [extract_tcs t k hk]
theorem index29 (t : Nat → Pr) (k : Nat) (hk : k < 8) (w : World) : (Instr.index 29 (.agg (tcs t)) (.int .i64 k)).run Try.prog w = .ok (.agg (pcs (t k))) w := by
  have h := part28 t k hk w
  unfold Instr.index
  simp only [asIntOf, Sem.run_bind, Sem.run_pure, Result.andThen_ok, run_underlying Try.underlying29, Try.sizeOf28]
  rw [if_pos (by omega)]
  simpa [Sem.run_bind, Try.sizeOf28] using h
theorem eqP_self (p : Pr) : eqP p p = true := by unfold eqP; simp
theorem eq29_v (w : World) (t : Nat → Pr) : (Op.equalIn 10000 29 (.agg (tcs t)) (.agg (tcs t))).run Try.prog w = .ok true w := by
  obtain ⟨i, hi⟩ := info28s
  have c : Try.prog.cellsOf 28 = 29 := by kernel_rfl
  rw [show (10000 : Nat) = 9999 + 1 from rfl, run_equalIn_array w 9999 _ _ Try.underlying29 hi, c, show List.range 8 = [0, 1, 2, 3, 4, 5, 6, 7] from rfl]
  have e : ∀ p : Pr, (Op.equalIn 9999 28 (.agg (pcs p)) (.agg (pcs p))).run Try.prog w = .ok true w := fun p => by have := eq28_v 9995 w p p; rw [eqP_self] at this; exact this
  rw [show true = (true && (true && (true && (true && (true && (true && (true && (true && true)))))))) from rfl]
  refine eqi_cons (part28 t 0 (by decide) w) (part28 t 0 (by decide) w) (e _) ?_
  refine eqi_cons (part28 t 1 (by decide) w) (part28 t 1 (by decide) w) (e _) ?_
  refine eqi_cons (part28 t 2 (by decide) w) (part28 t 2 (by decide) w) (e _) ?_
  refine eqi_cons (part28 t 3 (by decide) w) (part28 t 3 (by decide) w) (e _) ?_
  refine eqi_cons (part28 t 4 (by decide) w) (part28 t 4 (by decide) w) (e _) ?_
  refine eqi_cons (part28 t 5 (by decide) w) (part28 t 5 (by decide) w) (e _) ?_
  refine eqi_cons (part28 t 6 (by decide) w) (part28 t 6 (by decide) w) (e _) ?_
  refine eqi_cons (part28 t 7 (by decide) w) (part28 t 7 (by decide) w) (e _) ?_
  simp only [Op.eqItems, Sem.run_pure]
theorem guard28 : Try.prog.eqGuardType Try.prog.depth 28 = false := by kernel_rfl
theorem guard29 : Try.prog.eqGuardType Try.prog.depth 29 = false := by kernel_rfl
section
variable {ops : Array Oper} {o : Oper} {rest : List Oper} {a : Act} {Q : Exit → Act → World → Prop} {w : World}
theorem st_alloc29 (hw : Region.wanted o (yielded ops a.tmps) = true) (ho : o.op = .alloc 29)
    (h : wpList Try.prog ops Q rest (a.put o.dst (.pointer (some ⟨w.heap.size, 0, none⟩))) (w.alloc (.cells (tcs tz) 29))) : wpList Try.prog ops Q (o :: rest) a w :=
  st_val hw (by unfold execOp; simp only [ho, Instr.alloc, Sem.run_bind, zero29, Result.andThen_ok]; simp [go_sem, Value.cells]) h
theorem st_alloc28 (hw : Region.wanted o (yielded ops a.tmps) = true) (ho : o.op = .alloc 28)
    (h : wpList Try.prog ops Q rest (a.put o.dst (.pointer (some ⟨w.heap.size, 0, none⟩))) (w.alloc (.cells (pcs zp) 28))) : wpList Try.prog ops Q (o :: rest) a w :=
  st_val hw (by unfold execOp; simp only [ho, Instr.alloc, Sem.run_bind, zero28, Result.andThen_ok]; simp [go_sem, Value.cells]) h
theorem st_build29 (hw : Region.wanted o (yielded ops a.tmps) = true) (ho : o.op = .build 29 #[])
    (h : wpList Try.prog ops Q rest (a.put o.dst (.agg (tcs tz))) w) : wpList Try.prog ops Q (o :: rest) a w :=
  st_val hw (by unfold execOp; simp only [ho, Array.map_empty, Sem.run_bind, build29, Result.andThen_ok, Sem.run_pure]) h
theorem st_build28 (hw : Region.wanted o (yielded ops a.tmps) = true) (ho : o.op = .build 28 #[])
    (h : wpList Try.prog ops Q rest (a.put o.dst (.agg (pcs zp))) w) : wpList Try.prog ops Q (o :: rest) a w :=
  st_val hw (by unfold execOp; simp only [ho, Array.map_empty, Sem.run_bind, build28, Result.andThen_ok, Sem.run_pure]) h
theorem st_buildZ {x0 x1 x2 x3 : Operand} {x y s : Int} (hw : Region.wanted o (yielded ops a.tmps) = true) (ho : o.op = .build 28 #[(0, x0), (1, x1), (2, x2), (11, x3)]) (h0 : a.eval x0 = .int .i64 x) (h1 : a.eval x1 = .int .i64 y) (h2 : a.eval x2 = .int .i64 3) (h3 : a.eval x3 = .int .i64 s)
    (h : wpList Try.prog ops Q rest (a.put o.dst (.agg (pcs (zomb x y s)))) w) : wpList Try.prog ops Q (o :: rest) a w :=
  st_val hw (by unfold execOp; simp only [ho, List.map_toArray, List.map_cons, List.map_nil, h0, h1, h2, h3, Sem.run_bind, buildZ, Result.andThen_ok, Sem.run_pure]) h
theorem st_index29 {x i : Operand} {t : Nat → Pr} {k : Nat} (hw : Region.wanted o (yielded ops a.tmps) = true) (ho : o.op = .index 29 x i) (hx : a.eval x = .agg (tcs t)) (hi : a.eval i = .int .i64 (k : Int)) (hk : k < 8)
    (h : wpList Try.prog ops Q rest (a.put o.dst (.agg (pcs (t k)))) w) : wpList Try.prog ops Q (o :: rest) a w :=
  st_val hw (by unfold execOp; simp only [ho, hx, hi, Sem.run_bind, index29 t k hk, Result.andThen_ok, Sem.run_pure]) h
theorem st_eql28 {x y : Operand} {p q : Pr} (hw : Region.wanted o (yielded ops a.tmps) = true) (ho : o.op = .binOp .eql 28 x y 28) (hx : a.eval x = .agg (pcs p)) (hy : a.eval y = .agg (pcs q))
    (h : wpList Try.prog ops Q rest (a.put o.dst (.bool (eqP p q))) w) : wpList Try.prog ops Q (o :: rest) a w :=
  st_val hw (by
    unfold execOp
    simp only [ho, hx, hy, Sem.run_bind, run_eqGuard_agg w .eql 28 x y _ _ guard28, run_eql_struct, Result.andThen_ok, Sem.run_pure, show (10000 : Nat) = 9996 + 4 from rfl, eq28_v]) h
theorem st_neq28 {x y : Operand} {p q : Pr} (hw : Region.wanted o (yielded ops a.tmps) = true) (ho : o.op = .binOp .neq 28 x y 28) (hx : a.eval x = .agg (pcs p)) (hy : a.eval y = .agg (pcs q))
    (h : wpList Try.prog ops Q rest (a.put o.dst (.bool (!eqP p q))) w) : wpList Try.prog ops Q (o :: rest) a w :=
  st_val hw (by
    unfold execOp
    simp only [ho, hx, hy, Sem.run_bind, run_eqGuard_agg w .neq 28 x y _ _ guard28, run_neq_struct, Result.andThen_ok, Sem.run_pure, show (10000 : Nat) = 9996 + 4 from rfl, eq28_v]) h
theorem st_eql29 {x y : Operand} {t : Nat → Pr} (hw : Region.wanted o (yielded ops a.tmps) = true) (ho : o.op = .binOp .eql 29 x y 29) (hx : a.eval x = .agg (tcs t)) (hy : a.eval y = .agg (tcs t))
    (h : wpList Try.prog ops Q rest (a.put o.dst (.bool true)) w) : wpList Try.prog ops Q (o :: rest) a w :=
  st_val hw (by
    unfold execOp
    simp only [ho, hx, hy, Sem.run_bind, run_eqGuard_agg w .eql 29 x y _ _ guard29, run_eql_struct, Result.andThen_ok, Sem.run_pure, eq29_v]) h
end
end Go.Proofs.Ytnnknhcdnklalaa.A
