/- Equality of a table of pages with itself, as the program computes it. No condition. -/
import Derived.Test.YtmlhdepemeodkaaTabP
namespace Go.Proofs.Ytmlhdepemeodkaa.A
open Go Go.RowKit
set_option linter.unusedSimpArgs false
set_option linter.unusedVariables false
theorem info23s : ∃ i, Try.prog.info? 23 = some i := Option.isSome_iff_exists.1 (by kernel_rfl)
theorem eqi_cons {P : Program} {d : Nat} {e : TypeId} {size : Nat} {xs ys : Array Value} {i : Nat} {is : List Nat} {a b : Value} {r s : Bool} {w : World} (ha : (part e xs (i * size)).run P w = .ok a w) (hb : (part e ys (i * size)).run P w = .ok b w) (he : (Op.equalIn d e a b).run P w = .ok r w)
    (h : (Op.eqItems d e size xs ys is).run P w = .ok s w) : (Op.eqItems d e size xs ys (i :: is)).run P w = .ok (r && s) w := by
  simp only [Op.eqItems, Sem.run_bind, ha, hb, he, Result.andThen_ok]
  cases r
  · simp
  · simpa using h
theorem eqf_cons {P : Program} {d : Nat} {xs ys : Array Value} {f : Field} {fs : List Field} {a b : Value} {r s : Bool} {w : World} (hn : (f.name == "_") = false) (ha : (part f.type xs f.offset).run P w = .ok a w) (hb : (part f.type ys f.offset).run P w = .ok b w) (he : (Op.equalIn d f.type a b).run P w = .ok r w)
    (hr : (Op.eqFields d xs ys fs).run P w = .ok s w) : (Op.eqFields d xs ys (f :: fs)).run P w = .ok (r && s) w := by
  have hn' : f.name ≠ "_" := by simpa using hn
  rw [Op.eqFields]
  simp only [if_pos hn', Sem.run_bind, ha, hb, he, Result.andThen_ok]
  cases r
  · simp
  · simpa using hr
theorem eqA_of {P : Program} {d : Nat} {xs ys : Array Value} {r : Bool} {w : World} {t : TypeId} {fs : Array Field} (hu : P.underlying t = some (.struct fs)) (hp : P.stoodInHeld t = false) (h : (Op.eqFields d xs ys fs.toList).run P w = .ok r w) : (Op.equalIn (d + 1) t (.agg xs) (.agg ys)).run P w = .ok r w := by
  have hf : P.fieldsOf t = fs := by simp [Program.fieldsOf, hu]
  rw [run_equalIn_struct (P := P) w d t xs ys (by rw [hf]; exact hu) hp, hf]
  exact h
theorem arr4_lit (g : Ar) : arr 4 1 g = #[.int .i64 (g.f 0), .int .i64 (g.f 1), .int .i64 (g.f 2), .bool (g.x 3)] :=
  (arr_ext (p := 1) (u := g) (n := 4) rfl (fun j hj => by
    match j, hj with
    | 0, _ => rfl
    | 1, _ => rfl
    | 2, _ => rfl
    | 3, _ => rfl)).symm
set_option maxRecDepth 100000 in
theorem eqP23 (d : Nat) (w : World) (x0 x1 x2 y0 y1 y2 : Int) (x3 y3 : Bool) : (Op.equalIn (d + 2) 23 (.agg #[.int .i64 x0, .int .i64 x1, .int .i64 x2, .bool x3]) (.agg #[.int .i64 y0, .int .i64 y1, .int .i64 y2, .bool y3])).run Try.prog w = .ok (x0 == y0 && (x1 == y1 && (x2 == y2 && (x3 == y3 && true)))) w := by
  refine eqA_of Try.underlying23 (by kernel_rfl) ?_
  refine eqf_cons (by rfl) (a := .int .i64 x0) (b := .int .i64 y0) (by kernel_rfl) (by kernel_rfl) (run_equalIn_int _ _ _ _ _ _ _ Try.underlying3) ?_
  refine eqf_cons (by rfl) (a := .int .i64 x1) (b := .int .i64 y1) (by kernel_rfl) (by kernel_rfl) (run_equalIn_int _ _ _ _ _ _ _ Try.underlying3) ?_
  refine eqf_cons (by rfl) (a := .int .i64 x2) (b := .int .i64 y2) (by kernel_rfl) (by kernel_rfl) (run_equalIn_int _ _ _ _ _ _ _ Try.underlying3) ?_
  refine eqf_cons (by rfl) (a := .bool x3) (b := .bool y3) (by kernel_rfl) (by kernel_rfl) (run_equalIn_bool _ _ _ _ _ Try.underlying4) ?_
  simp only [Op.eqFields, Sem.run_pure]
theorem eq24_v (w : World) (u : Ar) : (Op.equalIn 10000 24 (.agg (arr 32 1 u)) (.agg (arr 32 1 u))).run Try.prog w = .ok true w := by
  obtain ⟨i, hi⟩ := info23s
  have c : Try.prog.cellsOf 23 = 4 := by kernel_rfl
  rw [show (10000 : Nat) = 9999 + 1 from rfl, run_equalIn_array w 9999 _ _ Try.underlying24 hi, c, show List.range 8 = [0, 1, 2, 3, 4, 5, 6, 7] from rfl]
  have e : ∀ g : Ar, (Op.equalIn 9999 23 (.agg (arr 4 1 g)) (.agg (arr 4 1 g))).run Try.prog w = .ok true w := fun g => by
    rw [arr4_lit]
    have := eqP23 9997 w (g.f 0) (g.f 1) (g.f 2) (g.f 0) (g.f 1) (g.f 2) (g.x 3) (g.x 3)
    simpa using this
  have p : ∀ k, k < 8 → (part 23 (arr 32 1 u) (k * 4)).run Try.prog w = .ok (.agg (arr 4 1 (sh u (k * 4)))) w := fun k hk => part23 u (by omega) (by omega) w
  rw [show true = (true && (true && (true && (true && (true && (true && (true && (true && true)))))))) from rfl]
  refine eqi_cons (p 0 (by decide)) (p 0 (by decide)) (e _) ?_
  refine eqi_cons (p 1 (by decide)) (p 1 (by decide)) (e _) ?_
  refine eqi_cons (p 2 (by decide)) (p 2 (by decide)) (e _) ?_
  refine eqi_cons (p 3 (by decide)) (p 3 (by decide)) (e _) ?_
  refine eqi_cons (p 4 (by decide)) (p 4 (by decide)) (e _) ?_
  refine eqi_cons (p 5 (by decide)) (p 5 (by decide)) (e _) ?_
  refine eqi_cons (p 6 (by decide)) (p 6 (by decide)) (e _) ?_
  refine eqi_cons (p 7 (by decide)) (p 7 (by decide)) (e _) ?_
  simp only [Op.eqItems, Sem.run_pure]
theorem guard24 : Try.prog.eqGuardType Try.prog.depth 24 = false := by kernel_rfl
section
variable {ops : Array Oper} {o : Oper} {rest : List Oper} {a : Act} {Q : Exit → Act → World → Prop} {w : World}
theorem g_eql24 {P : Program} {x y : Operand} (h : wpList P ops Q (o :: rest) a w) (ho : o.op = .binOp .eql 24 x y 24) : wpList P ops Q (o :: rest) a w := h
theorem st_eql24 {x y : Operand} {u : Ar} (hw : Region.wanted o (yielded ops a.tmps) = true) (ho : o.op = .binOp .eql 24 x y 24) (hx : a.eval x = .agg (arr 32 1 u)) (hy : a.eval y = .agg (arr 32 1 u))
    (h : wpList Try.prog ops Q rest (a.put o.dst (.bool true)) w) : wpList Try.prog ops Q (o :: rest) a w :=
  st_val hw (by
    unfold execOp
    simp only [ho, hx, hy, Sem.run_bind, run_eqGuard_agg w .eql 24 x y _ _ guard24, run_eql_struct, Result.andThen_ok, Sem.run_pure, eq24_v]) h
end
end Go.Proofs.Ytmlhdepemeodkaa.A
