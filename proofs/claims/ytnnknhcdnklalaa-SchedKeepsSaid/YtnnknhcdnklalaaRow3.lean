/- A slice of three tables: how it is built, and how a table is loaded out of it. No condition. -/
import Derived.Test.YtnnknhcdnklalaaKeepP
namespace Go.Proofs.Ytnnknhcdnklalaa.A
open Go Go.RowKit
set_option linter.unusedSimpArgs false
set_option linter.unusedVariables false
/-- Block b holds three tables, one behind the other. -/
def TRow (w : World) (b : Nat) (f : Nat → Nat → Pr) : Prop := ∃ C, w.heap[b]? = some (.cells C 29 (0, 0)) ∧ ∀ k j, k < 3 → j < 232 → C[k * 232 + j]? = (tcs (f k))[j]?
theorem TRow.below {w w' : World} {b B : Nat} {f : Nat → Nat → Pr} (h : TRow w b f) (hb : Below B w w') (hlt : b < B) : TRow w' b f := by
  obtain ⟨C, h1, h2⟩ := h; exact ⟨C, by rw [hb.block b hlt]; exact h1, h2⟩
theorem TRow.lt {w : World} {b : Nat} {f : Nat → Nat → Pr} (h : TRow w b f) : b < w.heap.size := by obtain ⟨C, h1, _⟩ := h; exact (Array.getElem?_eq_some_iff.1 h1).1
theorem TRow.range {w : World} {b : Nat} {f : Nat → Nat → Pr} (h : TRow w b f) (k : Nat) (hk : k < 3) : w.rangeAt b (k * 232) (tcs (f k)).toList := by
  obtain ⟨C, h1, h2⟩ := h
  intro j v hv
  rw [Array.getElem?_toList] at hv
  have hj : j < 232 := by have := (Array.getElem?_eq_some_iff.1 hv).1; rw [tcs_size] at this; exact this
  rw [cell_of_row _ _ _ _ _ _ h1, h2 k j hk hj]; exact hv
theorem fold_set (off : Nat) : ∀ (l : List Value) (n : Nat) (cs : Array Value), ((l.zipIdx n).foldl (fun cs x => cs.setIfInBounds (off + x.2) x.1) cs).size = cs.size ∧
    ∀ i, i < cs.size → ((l.zipIdx n).foldl (fun cs x => cs.setIfInBounds (off + x.2) x.1) cs)[i]? = if off + n ≤ i ∧ i < off + n + l.length then l[i - (off + n)]? else cs[i]?
  | [], n, cs => ⟨rfl, fun i hi => by rw [if_neg (by rintro ⟨h1, h2⟩; simp at h2; omega)]; rfl⟩
  | v :: r, n, cs => by
    obtain ⟨h1, h2⟩ := fold_set off r (n + 1) (cs.setIfInBounds (off + n) v)
    rw [List.zipIdx_cons, List.foldl_cons]
    refine ⟨by rw [h1]; simp, fun i hi => ?_⟩
    rw [h2 i (by simpa using hi)]
    by_cases h0 : i = off + n
    · subst h0
      rw [if_neg (by omega), if_pos (by simp), Nat.sub_self]
      simp [hi]
    · by_cases h3 : off + (n + 1) ≤ i ∧ i < off + (n + 1) + r.length
      · rw [if_pos h3, if_pos (by simp; omega)]
        have : i - (off + n) = (i - (off + (n + 1))) + 1 := by omega
        rw [this]; simp
      · rw [if_neg h3, if_neg (by simp; omega)]
        simp [Array.getElem?_setIfInBounds, Ne.symm h0]
theorem fill_one {place : Nat → Option (Nat × Nat)} {cs : Array Value} {i off size : Nat} {x : Array Value} {rest : List (Nat × Value)} (hp : place i = some (off, size)) (hx : x.size = size) (hb : off + size ≤ cs.size) :
    ∃ cs', Instr.fill place cs ((i, .agg x) :: rest) = Instr.fill place cs' rest ∧ cs'.size = cs.size ∧ ∀ j, j < cs.size → cs'[j]? = if off ≤ j ∧ j < off + size then x[j - off]? else cs[j]? := by
  obtain ⟨h1, h2⟩ := fold_set off x.toList 0 cs
  refine ⟨(x.toList.zipIdx 0).foldl (fun cs x => cs.setIfInBounds (off + x.2) x.1) cs, ?_, h1, fun j hj => ?_⟩
  · have e : Instr.fill place cs ((i, .agg x) :: rest) = (match place i with
      | none => none
      | some (off, size) => if x.size ≠ size || off + x.size > cs.size then none else Instr.fill place (x.zipIdx.foldl (fun cs (y : Value × Nat) => cs.setIfInBounds (off + y.2) y.1) cs) rest) := rfl
    rw [e, hp]
    simp only []
    rw [if_neg (by simp [hx]; omega), ← Array.foldl_toList, Array.toList_zipIdx]
  · rw [h2 j hj, Array.length_toList, hx, Array.getElem?_toList]
    simp
set_option maxRecDepth 100000 in
theorem build43 (f : Nat → Nat → Pr) (w : World) : ∃ C, (Instr.buildSlice 43 3 #[(0, .agg (tcs (f 0))), (1, .agg (tcs (f 1))), (2, .agg (tcs (f 2)))]).run Try.prog w = .ok (.slice (some ⟨w.heap.size, 0, none⟩) 3 3) (w.alloc (.cells C 29)) ∧ TRow (w.alloc (.cells C 29)) w.heap.size f := by
  have hs : ∀ w, (sizeOf 29).run Try.prog w = .ok 232 w := fun w => by kernel_rfl
  obtain ⟨c1, e1, s1, g1⟩ := fill_one (place := fun i => some (i * 232, 232)) (cs := (Array.range 696).map (fun i => (tcs tz)[i % (tcs tz).size]!)) (i := 0) (off := 0) (size := 232) (x := tcs (f 0)) (rest := [(1, .agg (tcs (f 1))), (2, .agg (tcs (f 2)))]) rfl (tcs_size _) (by rw [Array.size_map, Array.size_range]; omega)
  obtain ⟨c2, e2, s2, g2⟩ := fill_one (place := fun i => some (i * 232, 232)) (cs := c1) (i := 1) (off := 232) (size := 232) (x := tcs (f 1)) (rest := [(2, .agg (tcs (f 2)))]) rfl (tcs_size _) (by rw [s1, Array.size_map, Array.size_range]; omega)
  obtain ⟨c3, e3, s3, g3⟩ := fill_one (place := fun i => some (i * 232, 232)) (cs := c2) (i := 2) (off := 464) (size := 232) (x := tcs (f 2)) (rest := []) rfl (tcs_size _) (by rw [s2, s1, Array.size_map, Array.size_range]; omega)
  have hsz : ((Array.range 696).map (fun i => (tcs tz)[i % (tcs tz).size]!)).size = 696 := by rw [Array.size_map, Array.size_range]
  rw [hsz] at s1 g1
  rw [s1] at s2 g2
  rw [s2] at s3 g3
  have hf : Instr.fill (fun i => some (i * 232, 232)) ((Array.range 696).map (fun i => (tcs tz)[i % (tcs tz).size]!)) [(0, .agg (tcs (f 0))), (1, .agg (tcs (f 1))), (2, .agg (tcs (f 2)))] = some c3 := by
    rw [e1, e2, e3]; rfl
  refine ⟨c3, ?_, ⟨c3, heap_alloc_new w _, fun k j hk hj => ?_⟩⟩
  · unfold Instr.buildSlice
    simp only [Sem.run_bind, run_underlying Try.underlying43, Result.andThen_ok, hs, zero29, Value.cells]
    simp [Sem.run_bind, zero29, Value.cells, hf, newRow]
  · match k, hk with
    | 0, _ => rw [g3 _ (by omega), if_neg (by omega), g2 _ (by omega), if_neg (by omega), g1 _ (by omega), if_pos (by omega)]; congr 1; omega
    | 1, _ => rw [g3 _ (by omega), if_neg (by omega), g2 _ (by omega), if_pos (by omega)]; congr 1; omega
    | 2, _ => rw [g3 _ (by omega), if_pos (by omega)]; congr 1; omega
    | k + 3, h => exact absurd h (by omega)
section
variable {ops : Array Oper} {o : Oper} {rest : List Oper} {a : Act} {Q : Exit → Act → World → Prop} {w : World}
theorem g_bslice (t : TypeId) {P : Program} {n : Nat} {x : Array (Nat × Operand)} (h : wpList P ops Q (o :: rest) a w) (ho : o.op = .buildSlice t n x) : wpList P ops Q (o :: rest) a w := h
theorem st_bslice43 {x0 x1 x2 : Operand} (f : Nat → Nat → Pr) (hw : Region.wanted o (yielded ops a.tmps) = true) (ho : o.op = .buildSlice 43 3 #[(0, x0), (1, x1), (2, x2)]) (h0 : a.eval x0 = .agg (tcs (f 0))) (h1 : a.eval x1 = .agg (tcs (f 1))) (h2 : a.eval x2 = .agg (tcs (f 2)))
    (h : ∀ C, TRow (w.alloc (.cells C 29)) w.heap.size f → wpList Try.prog ops Q rest (a.put o.dst (.slice (some ⟨w.heap.size, 0, none⟩) 3 3)) (w.alloc (.cells C 29))) : wpList Try.prog ops Q (o :: rest) a w := by
  obtain ⟨C, hr, hT⟩ := build43 f w
  exact st_val hw (by unfold execOp; simp only [ho, List.map_toArray, List.map_cons, List.map_nil, h0, h1, h2, Sem.run_bind, hr, Result.andThen_ok, Sem.run_pure]) (h C hT)
theorem st_loadT {b k : Nat} {f : Nat → Nat → Pr} {x : Operand} (hw : Region.wanted o (yielded ops a.tmps) = true) (ho : o.op = .load 29 x) (hx : a.eval x = .pointer (some ⟨b, k * 232, none⟩)) (hb : TRow w b f) (hk : k < 3)
    (h : wpList Try.prog ops Q rest (a.put o.dst (.agg (tcs (f k)))) w) : wpList Try.prog ops Q (o :: rest) a w :=
  wpList_step (fun K hK => by rw [if_pos hw]; exact wp_load_mid 29 x ho b (k * 232) hx (tcs (f k)).toList _ (hb.range k hk) Try.underlying29 rfl (info29l _) (hK _ _ h))
end
end Go.Proofs.Ytnnknhcdnklalaa.A
