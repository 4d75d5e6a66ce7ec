/- Equality of processes and of tables, as the program computes it. No condition. -/
import Derived.Test.YtnnknhcdnklalaaF3
import Derived.ChangeKeysEq
namespace Go.Proofs.Ytnnknhcdnklalaa.A
open Go Go.RowKit
set_option linter.unusedSimpArgs false
set_option linter.unusedVariables false
theorem info3 : ∃ i, Try.prog.info? 3 = some i := Option.isSome_iff_exists.1 (by kernel_rfl)
theorem info28s : ∃ i, Try.prog.info? 28 = some i := Option.isSome_iff_exists.1 (by kernel_rfl)
theorem eqi_cons {P : Program} {d : Nat} {e : TypeId} {size : Nat} {xs ys : Array Value} {i : Nat} {is : List Nat} {a b : Value} {r s : Bool} {w : World} (ha : (part e xs (i * size)).run P w = .ok a w) (hb : (part e ys (i * size)).run P w = .ok b w) (he : (Op.equalIn d e a b).run P w = .ok r w)
    (h : (Op.eqItems d e size xs ys is).run P w = .ok s w) : (Op.eqItems d e size xs ys (i :: is)).run P w = .ok (r && s) w := by
  simp only [Op.eqItems, Sem.run_bind, ha, hb, he, Result.andThen_ok]
  cases r
  · simp
  · simpa using h
theorem eqf_cons {P : Program} {d : Nat} {xs ys : Array Value} {f : Field} {fs : List Field} {a b : Value} {r s : Bool} {w : World} (hn : (f.name == "_") = false) (ha : (part f.type xs f.offset).run P w = .ok a w) (hb : (part f.type ys f.offset).run P w = .ok b w) (he : (Op.equalIn d f.type a b).run P w = .ok r w)
    (hr : (Op.eqFields d xs ys fs).run P w = .ok s w) : (Op.eqFields d xs ys (f :: fs)).run P w = .ok (r && s) w := by
  have hn' : f.name ≠ "_" := by simpa using hn
  rw [Op.eqFields]
  simp only [if_pos hn', Sem.run_bind, ha, hb, he, Result.andThen_ok]
  cases r
  · simp
  · simpa using hr
theorem eqA_of {P : Program} {d : Nat} {xs ys : Array Value} {r : Bool} {w : World} {t : TypeId} {fs : Array Field} (hu : P.underlying t = some (.struct fs)) (hp : P.stoodInHeld t = false) (h : (Op.eqFields d xs ys fs.toList).run P w = .ok r w) : (Op.equalIn (d + 1) t (.agg xs) (.agg ys)).run P w = .ok r w := by
  have hf : P.fieldsOf t = fs := by simp [Program.fieldsOf, hu]
  rw [run_equalIn_struct (P := P) w d t xs ys (by rw [hf]; exact hu) hp, hf]
  exact h
theorem eqA22 (d : Nat) (w : World) (x0 x1 x2 x3 x4 x5 y0 y1 y2 y3 y4 y5 : Int) : (Op.equalIn (d + 2) 22 (.agg #[.int .i64 x0, .int .i64 x1, .int .i64 x2, .int .i64 x3, .int .i64 x4, .int .i64 x5]) (.agg #[.int .i64 y0, .int .i64 y1, .int .i64 y2, .int .i64 y3, .int .i64 y4, .int .i64 y5])).run Try.prog w = .ok (x0 == y0 && (x1 == y1 && (x2 == y2 && (x3 == y3 && (x4 == y4 && (x5 == y5 && (true))))))) w := by
  obtain ⟨i3, hi3⟩ := info3
  have c3 : Try.prog.cellsOf 3 = 1 := by kernel_rfl
  rw [run_equalIn_array w (d + 1) _ _ Try.underlying22 hi3, c3, show List.range 6 = [0, 1, 2, 3, 4, 5] from rfl]
  refine eqi_cons (a := .int .i64 x0) (b := .int .i64 y0) (by kernel_rfl) (by kernel_rfl) (run_equalIn_int _ _ _ _ _ _ _ Try.underlying3) ?_
  refine eqi_cons (a := .int .i64 x1) (b := .int .i64 y1) (by kernel_rfl) (by kernel_rfl) (run_equalIn_int _ _ _ _ _ _ _ Try.underlying3) ?_
  refine eqi_cons (a := .int .i64 x2) (b := .int .i64 y2) (by kernel_rfl) (by kernel_rfl) (run_equalIn_int _ _ _ _ _ _ _ Try.underlying3) ?_
  refine eqi_cons (a := .int .i64 x3) (b := .int .i64 y3) (by kernel_rfl) (by kernel_rfl) (run_equalIn_int _ _ _ _ _ _ _ Try.underlying3) ?_
  refine eqi_cons (a := .int .i64 x4) (b := .int .i64 y4) (by kernel_rfl) (by kernel_rfl) (run_equalIn_int _ _ _ _ _ _ _ Try.underlying3) ?_
  refine eqi_cons (a := .int .i64 x5) (b := .int .i64 y5) (by kernel_rfl) (by kernel_rfl) (run_equalIn_int _ _ _ _ _ _ _ Try.underlying3) ?_
  simp only [Op.eqItems, Sem.run_pure]
theorem eqA23 (d : Nat) (w : World) (x0 x1 y0 y1 : Int) : (Op.equalIn (d + 2) 23 (.agg #[.int .i64 x0, .int .i64 x1]) (.agg #[.int .i64 y0, .int .i64 y1])).run Try.prog w = .ok (x0 == y0 && (x1 == y1 && (true))) w := by
  obtain ⟨i3, hi3⟩ := info3
  have c3 : Try.prog.cellsOf 3 = 1 := by kernel_rfl
  rw [run_equalIn_array w (d + 1) _ _ Try.underlying23 hi3, c3, show List.range 2 = [0, 1] from rfl]
  refine eqi_cons (a := .int .i64 x0) (b := .int .i64 y0) (by kernel_rfl) (by kernel_rfl) (run_equalIn_int _ _ _ _ _ _ _ Try.underlying3) ?_
  refine eqi_cons (a := .int .i64 x1) (b := .int .i64 y1) (by kernel_rfl) (by kernel_rfl) (run_equalIn_int _ _ _ _ _ _ _ Try.underlying3) ?_
  simp only [Op.eqItems, Sem.run_pure]
theorem eqA26 (d : Nat) (w : World) (x0 x1 x2 x3 x4 x5 x6 x7 y0 y1 y2 y3 y4 y5 y6 y7 : Int) : (Op.equalIn (d + 2) 26 (.agg #[.int .i64 x0, .int .i64 x1, .int .i64 x2, .int .i64 x3, .int .i64 x4, .int .i64 x5, .int .i64 x6, .int .i64 x7]) (.agg #[.int .i64 y0, .int .i64 y1, .int .i64 y2, .int .i64 y3, .int .i64 y4, .int .i64 y5, .int .i64 y6, .int .i64 y7])).run Try.prog w = .ok (x0 == y0 && (x1 == y1 && (x2 == y2 && (x3 == y3 && (x4 == y4 && (x5 == y5 && (x6 == y6 && (x7 == y7 && (true))))))))) w := by
  obtain ⟨i3, hi3⟩ := info3
  have c3 : Try.prog.cellsOf 3 = 1 := by kernel_rfl
  rw [run_equalIn_array w (d + 1) _ _ Try.underlying26 hi3, c3, show List.range 8 = [0, 1, 2, 3, 4, 5, 6, 7] from rfl]
  refine eqi_cons (a := .int .i64 x0) (b := .int .i64 y0) (by kernel_rfl) (by kernel_rfl) (run_equalIn_int _ _ _ _ _ _ _ Try.underlying3) ?_
  refine eqi_cons (a := .int .i64 x1) (b := .int .i64 y1) (by kernel_rfl) (by kernel_rfl) (run_equalIn_int _ _ _ _ _ _ _ Try.underlying3) ?_
  refine eqi_cons (a := .int .i64 x2) (b := .int .i64 y2) (by kernel_rfl) (by kernel_rfl) (run_equalIn_int _ _ _ _ _ _ _ Try.underlying3) ?_
  refine eqi_cons (a := .int .i64 x3) (b := .int .i64 y3) (by kernel_rfl) (by kernel_rfl) (run_equalIn_int _ _ _ _ _ _ _ Try.underlying3) ?_
  refine eqi_cons (a := .int .i64 x4) (b := .int .i64 y4) (by kernel_rfl) (by kernel_rfl) (run_equalIn_int _ _ _ _ _ _ _ Try.underlying3) ?_
  refine eqi_cons (a := .int .i64 x5) (b := .int .i64 y5) (by kernel_rfl) (by kernel_rfl) (run_equalIn_int _ _ _ _ _ _ _ Try.underlying3) ?_
  refine eqi_cons (a := .int .i64 x6) (b := .int .i64 y6) (by kernel_rfl) (by kernel_rfl) (run_equalIn_int _ _ _ _ _ _ _ Try.underlying3) ?_
  refine eqi_cons (a := .int .i64 x7) (b := .int .i64 y7) (by kernel_rfl) (by kernel_rfl) (run_equalIn_int _ _ _ _ _ _ _ Try.underlying3) ?_
  simp only [Op.eqItems, Sem.run_pure]
set_option maxRecDepth 100000 in
set_option maxHeartbeats 2000000 in
theorem eqA25 (d : Nat) (w : World) (x0 x1 x2 x3 x4 x5 x6 x7 x8 x9 y0 y1 y2 y3 y4 y5 y6 y7 y8 y9 : Int) : (Op.equalIn (d + 3) 25 (.agg #[.int .i64 x0, .int .i64 x1, .int .i64 x2, .int .i64 x3, .int .i64 x4, .int .i64 x5, .int .i64 x6, .int .i64 x7, .int .i64 x8, .int .i64 x9]) (.agg #[.int .i64 y0, .int .i64 y1, .int .i64 y2, .int .i64 y3, .int .i64 y4, .int .i64 y5, .int .i64 y6, .int .i64 y7, .int .i64 y8, .int .i64 y9])).run Try.prog w = .ok ((x0 == y0 && (x1 == y1 && (x2 == y2 && (x3 == y3 && (x4 == y4 && (x5 == y5 && (true))))))) && ((x6 == y6 && (x7 == y7 && (true))) && (x8 == y8 && (x9 == y9 && (true))))) w := by
  refine eqA_of Try.underlying25 (by kernel_rfl) ?_
  refine eqf_cons (by rfl) (a := .agg #[.int .i64 x0, .int .i64 x1, .int .i64 x2, .int .i64 x3, .int .i64 x4, .int .i64 x5]) (b := .agg #[.int .i64 y0, .int .i64 y1, .int .i64 y2, .int .i64 y3, .int .i64 y4, .int .i64 y5]) (by kernel_rfl) (by kernel_rfl) (eqA22 (d + 0) w _ _ _ _ _ _ _ _ _ _ _ _ ) ?_
  refine eqf_cons (by rfl) (a := .agg #[.int .i64 x6, .int .i64 x7]) (b := .agg #[.int .i64 y6, .int .i64 y7]) (by kernel_rfl) (by kernel_rfl) (eqA23 (d + 0) w _ _ _ _ ) ?_
  refine eqf_cons (by rfl) (a := .int .i64 x8) (b := .int .i64 y8) (by kernel_rfl) (by kernel_rfl) (run_equalIn_int _ _ _ _ _ _ _ Try.underlying3) ?_
  refine eqf_cons (by rfl) (a := .int .i64 x9) (b := .int .i64 y9) (by kernel_rfl) (by kernel_rfl) (run_equalIn_int _ _ _ _ _ _ _ Try.underlying3) ?_
  simp only [Op.eqFields, Sem.run_pure]
set_option maxRecDepth 100000 in
set_option maxHeartbeats 2000000 in
theorem eqA28 (d : Nat) (w : World) (x0 x1 x2 x3 x4 x5 x6 x7 x8 x9 x10 x11 x12 x13 x14 x16 x17 x18 x19 x20 x21 x22 x23 x24 x25 x26 x27 x28 y0 y1 y2 y3 y4 y5 y6 y7 y8 y9 y10 y11 y12 y13 y14 y16 y17 y18 y19 y20 y21 y22 y23 y24 y25 y26 y27 y28 : Int) (x15 y15 : Bool) : (Op.equalIn (d + 4) 28 (.agg #[.int .i64 x0, .int .i64 x1, .int .i64 x2, .int .i64 x3, .int .i64 x4, .int .i64 x5, .int .i64 x6, .int .i64 x7, .int .i64 x8, .int .i64 x9, .int .i64 x10, .int .i64 x11, .int .i64 x12, .int .i64 x13, .int .i64 x14, .bool x15, .int .i64 x16, .int .i64 x17, .int .i64 x18, .int .i64 x19, .int .i64 x20, .int .i64 x21, .int .i64 x22, .int .i64 x23, .int .i64 x24, .int .i64 x25, .int .i64 x26, .int .i64 x27, .int .i64 x28]) (.agg #[.int .i64 y0, .int .i64 y1, .int .i64 y2, .int .i64 y3, .int .i64 y4, .int .i64 y5, .int .i64 y6, .int .i64 y7, .int .i64 y8, .int .i64 y9, .int .i64 y10, .int .i64 y11, .int .i64 y12, .int .i64 y13, .int .i64 y14, .bool y15, .int .i64 y16, .int .i64 y17, .int .i64 y18, .int .i64 y19, .int .i64 y20, .int .i64 y21, .int .i64 y22, .int .i64 y23, .int .i64 y24, .int .i64 y25, .int .i64 y26, .int .i64 y27, .int .i64 y28])).run Try.prog w = .ok (x0 == y0 && (x1 == y1 && (x2 == y2 && (((x3 == y3 && (x4 == y4 && (x5 == y5 && (x6 == y6 && (x7 == y7 && (x8 == y8 && (true))))))) && ((x9 == y9 && (x10 == y10 && (true))) && (x11 == y11 && (x12 == y12 && (true))))) && (x13 == y13 && (x14 == y14 && (x15 == y15 && ((x16 == y16 && (x17 == y17 && (x18 == y18 && (x19 == y19 && (x20 == y20 && (x21 == y21 && (x22 == y22 && (x23 == y23 && (true))))))))) && (x24 == y24 && (x25 == y25 && (x26 == y26 && (x27 == y27 && (x28 == y28 && (true)))))))))))))) w := by
  refine eqA_of Try.underlying28 (by kernel_rfl) ?_
  refine eqf_cons (by rfl) (a := .int .i64 x0) (b := .int .i64 y0) (by kernel_rfl) (by kernel_rfl) (run_equalIn_int _ _ _ _ _ _ _ Try.underlying3) ?_
  refine eqf_cons (by rfl) (a := .int .i64 x1) (b := .int .i64 y1) (by kernel_rfl) (by kernel_rfl) (run_equalIn_int _ _ _ _ _ _ _ Try.underlying3) ?_
  refine eqf_cons (by rfl) (a := .int .i64 x2) (b := .int .i64 y2) (by kernel_rfl) (by kernel_rfl) (run_equalIn_int _ _ _ _ _ _ _ Try.underlying3) ?_
  refine eqf_cons (by rfl) (a := .agg #[.int .i64 x3, .int .i64 x4, .int .i64 x5, .int .i64 x6, .int .i64 x7, .int .i64 x8, .int .i64 x9, .int .i64 x10, .int .i64 x11, .int .i64 x12]) (b := .agg #[.int .i64 y3, .int .i64 y4, .int .i64 y5, .int .i64 y6, .int .i64 y7, .int .i64 y8, .int .i64 y9, .int .i64 y10, .int .i64 y11, .int .i64 y12]) (by kernel_rfl) (by kernel_rfl) (eqA25 (d + 0) w _ _ _ _ _ _ _ _ _ _ _ _ _ _ _ _ _ _ _ _ ) ?_
  refine eqf_cons (by rfl) (a := .int .i64 x13) (b := .int .i64 y13) (by kernel_rfl) (by kernel_rfl) (run_equalIn_int _ _ _ _ _ _ _ Try.underlying3) ?_
  refine eqf_cons (by rfl) (a := .int .i64 x14) (b := .int .i64 y14) (by kernel_rfl) (by kernel_rfl) (run_equalIn_int _ _ _ _ _ _ _ Try.underlying3) ?_
  refine eqf_cons (by rfl) (a := .bool x15) (b := .bool y15) (by kernel_rfl) (by kernel_rfl) (run_equalIn_bool _ _ _ _ _ Try.underlying4) ?_
  refine eqf_cons (by rfl) (a := .agg #[.int .i64 x16, .int .i64 x17, .int .i64 x18, .int .i64 x19, .int .i64 x20, .int .i64 x21, .int .i64 x22, .int .i64 x23]) (b := .agg #[.int .i64 y16, .int .i64 y17, .int .i64 y18, .int .i64 y19, .int .i64 y20, .int .i64 y21, .int .i64 y22, .int .i64 y23]) (by kernel_rfl) (by kernel_rfl) (eqA26 (d + 1) w _ _ _ _ _ _ _ _ _ _ _ _ _ _ _ _ ) ?_
  refine eqf_cons (by rfl) (a := .int .i64 x24) (b := .int .i64 y24) (by kernel_rfl) (by kernel_rfl) (run_equalIn_int _ _ _ _ _ _ _ Try.underlying3) ?_
  refine eqf_cons (by rfl) (a := .int .i64 x25) (b := .int .i64 y25) (by kernel_rfl) (by kernel_rfl) (run_equalIn_int _ _ _ _ _ _ _ Try.underlying3) ?_
  refine eqf_cons (by rfl) (a := .int .i64 x26) (b := .int .i64 y26) (by kernel_rfl) (by kernel_rfl) (run_equalIn_int _ _ _ _ _ _ _ Try.underlying3) ?_
  refine eqf_cons (by rfl) (a := .int .i64 x27) (b := .int .i64 y27) (by kernel_rfl) (by kernel_rfl) (run_equalIn_int _ _ _ _ _ _ _ Try.underlying3) ?_
  refine eqf_cons (by rfl) (a := .int .i64 x28) (b := .int .i64 y28) (by kernel_rfl) (by kernel_rfl) (run_equalIn_int _ _ _ _ _ _ _ Try.underlying3) ?_
  simp only [Op.eqFields, Sem.run_pure]
theorem pcs_lit (p : Pr) : pcs p = #[.int .i64 (p.f 0), .int .i64 (p.f 1), .int .i64 (p.f 2), .int .i64 (p.f 3), .int .i64 (p.f 4), .int .i64 (p.f 5), .int .i64 (p.f 6), .int .i64 (p.f 7), .int .i64 (p.f 8), .int .i64 (p.f 9), .int .i64 (p.f 10), .int .i64 (p.f 11), .int .i64 (p.f 12), .int .i64 (p.f 13), .int .i64 (p.f 14), .bool p.sw, .int .i64 (p.f 16), .int .i64 (p.f 17), .int .i64 (p.f 18), .int .i64 (p.f 19), .int .i64 (p.f 20), .int .i64 (p.f 21), .int .i64 (p.f 22), .int .i64 (p.f 23), .int .i64 (p.f 24), .int .i64 (p.f 25), .int .i64 (p.f 26), .int .i64 (p.f 27), .int .i64 (p.f 28)] := (pcs_ext rfl (fun j hj => by
  match j, hj with
  | 0, _ => rfl
  | 1, _ => rfl
  | 2, _ => rfl
  | 3, _ => rfl
  | 4, _ => rfl
  | 5, _ => rfl
  | 6, _ => rfl
  | 7, _ => rfl
  | 8, _ => rfl
  | 9, _ => rfl
  | 10, _ => rfl
  | 11, _ => rfl
  | 12, _ => rfl
  | 13, _ => rfl
  | 14, _ => rfl
  | 15, _ => rfl
  | 16, _ => rfl
  | 17, _ => rfl
  | 18, _ => rfl
  | 19, _ => rfl
  | 20, _ => rfl
  | 21, _ => rfl
  | 22, _ => rfl
  | 23, _ => rfl
  | 24, _ => rfl
  | 25, _ => rfl
  | 26, _ => rfl
  | 27, _ => rfl
  | 28, _ => rfl
  | j + 29, h => exact absurd h (by omega))).symm
open Classical in
/-- Are the cells of two processes the same? -/
noncomputable def eqP (p q : Pr) : Bool := decide (pcs p = pcs q)
open Classical in
set_option maxRecDepth 100000 in
theorem eq28_v (d : Nat) (w : World) (p q : Pr) : (Op.equalIn (d + 4) 28 (.agg (pcs p)) (.agg (pcs q))).run Try.prog w = .ok (eqP p q) w := by
  have h := eqA28 d w (p.f 0) (p.f 1) (p.f 2) (p.f 3) (p.f 4) (p.f 5) (p.f 6) (p.f 7) (p.f 8) (p.f 9) (p.f 10) (p.f 11) (p.f 12) (p.f 13) (p.f 14) (p.f 16) (p.f 17) (p.f 18) (p.f 19) (p.f 20) (p.f 21) (p.f 22) (p.f 23) (p.f 24) (p.f 25) (p.f 26) (p.f 27) (p.f 28) (q.f 0) (q.f 1) (q.f 2) (q.f 3) (q.f 4) (q.f 5) (q.f 6) (q.f 7) (q.f 8) (q.f 9) (q.f 10) (q.f 11) (q.f 12) (q.f 13) (q.f 14) (q.f 16) (q.f 17) (q.f 18) (q.f 19) (q.f 20) (q.f 21) (q.f 22) (q.f 23) (q.f 24) (q.f 25) (q.f 26) (q.f 27) (q.f 28) p.sw q.sw
  rw [← pcs_lit p, ← pcs_lit q] at h
  rw [h]
  congr 1
  unfold eqP
  by_cases e : pcs p = pcs q
  · rw [decide_eq_true e]
    have g : ∀ j, j < 29 → pc p j = pc q j := fun j hj => by have := pcs_get p j hj; rw [e, pcs_get q j hj] at this; exact (Option.some.inj this).symm
    have gi : ∀ j, j < 29 → j ≠ 15 → p.f j = q.f j := fun j hj hn => by have := g j hj; rw [pc_int _ _ hn, pc_int _ _ hn] at this; injection this
    have gs : p.sw = q.sw := by have := g 15 (by decide); rw [pc_sw, pc_sw] at this; injection this
    simp only [gs, gi 0 (by decide) (by decide), gi 1 (by decide) (by decide), gi 2 (by decide) (by decide), gi 3 (by decide) (by decide), gi 4 (by decide) (by decide), gi 5 (by decide) (by decide), gi 6 (by decide) (by decide), gi 7 (by decide) (by decide), gi 8 (by decide) (by decide), gi 9 (by decide) (by decide), gi 10 (by decide) (by decide), gi 11 (by decide) (by decide), gi 12 (by decide) (by decide), gi 13 (by decide) (by decide), gi 14 (by decide) (by decide), gi 16 (by decide) (by decide), gi 17 (by decide) (by decide), gi 18 (by decide) (by decide), gi 19 (by decide) (by decide), gi 20 (by decide) (by decide), gi 21 (by decide) (by decide), gi 22 (by decide) (by decide), gi 23 (by decide) (by decide), gi 24 (by decide) (by decide), gi 25 (by decide) (by decide), gi 26 (by decide) (by decide), gi 27 (by decide) (by decide), gi 28 (by decide) (by decide), beq_self_eq_true, Bool.and_self, Bool.and_true]
  · rw [decide_eq_false e, ← Bool.not_eq_true]
    intro hh
    simp only [Bool.and_eq_true, beq_iff_eq] at hh
    refine e (pcs_ext (pcs_size p) fun j hj => ?_)
    rw [pcs_get p j hj]
    obtain ⟨h0, h1, h2, ⟨⟨h3, h4, h5, h6, h7, h8, _⟩, ⟨h9, h10, _⟩, h11, h12, _⟩, h13, h14, h15, ⟨h16, h17, h18, h19, h20, h21, h22, h23, _⟩, h24, h25, h26, h27, h28, _⟩ := hh
    match j, hj with
    | 0, _ => simp only [pc, h0]; rfl
    | 1, _ => simp only [pc, h1]; rfl
    | 2, _ => simp only [pc, h2]; rfl
    | 3, _ => simp only [pc, h3]; rfl
    | 4, _ => simp only [pc, h4]; rfl
    | 5, _ => simp only [pc, h5]; rfl
    | 6, _ => simp only [pc, h6]; rfl
    | 7, _ => simp only [pc, h7]; rfl
    | 8, _ => simp only [pc, h8]; rfl
    | 9, _ => simp only [pc, h9]; rfl
    | 10, _ => simp only [pc, h10]; rfl
    | 11, _ => simp only [pc, h11]; rfl
    | 12, _ => simp only [pc, h12]; rfl
    | 13, _ => simp only [pc, h13]; rfl
    | 14, _ => simp only [pc, h14]; rfl
    | 15, _ => simp only [pc, h15]; rfl
    | 16, _ => simp only [pc, h16]; rfl
    | 17, _ => simp only [pc, h17]; rfl
    | 18, _ => simp only [pc, h18]; rfl
    | 19, _ => simp only [pc, h19]; rfl
    | 20, _ => simp only [pc, h20]; rfl
    | 21, _ => simp only [pc, h21]; rfl
    | 22, _ => simp only [pc, h22]; rfl
    | 23, _ => simp only [pc, h23]; rfl
    | 24, _ => simp only [pc, h24]; rfl
    | 25, _ => simp only [pc, h25]; rfl
    | 26, _ => simp only [pc, h26]; rfl
    | 27, _ => simp only [pc, h27]; rfl
    | 28, _ => simp only [pc, h28]; rfl
    | j + 29, h => exact absurd h (by omega)
end Go.Proofs.Ytnnknhcdnklalaa.A
