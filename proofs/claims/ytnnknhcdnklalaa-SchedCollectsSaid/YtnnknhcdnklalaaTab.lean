/- The table of processes as a block of 232 cells: what a field's cell holds. No condition. -/
import Derived.Test.YtnnknhcdnklalaaProg
import Derived.WalkKit
import Derived.LoopN
import Derived.Deep.MidRow
import Derived.Deep.RegionHeld
namespace Go.Proofs.Ytnnknhcdnklalaa.A
open Go Go.RowKit
set_option linter.unusedSimpArgs false
set_option linter.unusedVariables false
theorem hidI {p : Prop} (h : p) : Hid p := h
/-- A process: its numbers by cell, and whether it is swapped out. -/
structure Pr where (f : Nat → Int) (sw : Bool)
def pc (p : Pr) (j : Nat) : Value := if j = 15 then .bool p.sw else .int .i64 (p.f j)
theorem pcs_ex (p : Pr) : ∃ C : Array Value, C.size = 29 ∧ ∀ j, j < 29 → C[j]? = some (pc p j) :=
  ⟨Array.ofFn (n := 29) fun i => pc p i, by simp, fun j h => by rw [Array.getElem?_ofFn, dif_pos h]⟩
/-- The 29 cells of a process (chosen, so that no tactic unfolds them). -/
noncomputable def pcs (p : Pr) : Array Value := Classical.choose (pcs_ex p)
theorem pcs_size (p : Pr) : (pcs p).size = 29 := (Classical.choose_spec (pcs_ex p)).1
theorem pcs_get (p : Pr) (j : Nat) (h : j < 29) : (pcs p)[j]? = some (pc p j) := (Classical.choose_spec (pcs_ex p)).2 j h
theorem tcs_ex (t : Nat → Pr) : ∃ C : Array Value, C.size = 232 ∧ ∀ j, j < 232 → C[j]? = some (pc (t (j / 29)) (j % 29)) :=
  ⟨Array.ofFn (n := 232) fun i => pc (t (i / 29)) (i % 29), by simp, fun j h => by rw [Array.getElem?_ofFn, dif_pos h]⟩
/-- The 232 cells of a table. -/
noncomputable def tcs (t : Nat → Pr) : Array Value := Classical.choose (tcs_ex t)
theorem tcs_size (t : Nat → Pr) : (tcs t).size = 232 := (Classical.choose_spec (tcs_ex t)).1
theorem tcs_at (t : Nat → Pr) (j : Nat) (h : j < 232) : (tcs t)[j]? = some (pc (t (j / 29)) (j % 29)) := (Classical.choose_spec (tcs_ex t)).2 j h
theorem tcs_get (t : Nat → Pr) (k j : Nat) (hk : k < 8) (hj : j < 29) : (tcs t)[k * 29 + j]? = some (pc (t k) j) := by
  rw [tcs_at t _ (by omega)]
  have e1 : (k * 29 + j) / 29 = k := by omega
  have e2 : (k * 29 + j) % 29 = j := by omega
  rw [e1, e2]
theorem pcs_ext {p : Pr} {C : Array Value} (hs : C.size = 29) (h : ∀ j, j < 29 → C[j]? = some (pc p j)) : C = pcs p := by
  apply Array.ext_getElem?; intro j
  by_cases hj : j < 29
  · rw [h j hj, pcs_get p j hj]
  · rw [Array.getElem?_eq_none (by omega), Array.getElem?_eq_none (by rw [pcs_size]; omega)]
theorem tcs_ext {t : Nat → Pr} {C : Array Value} (hs : C.size = 232) (h : ∀ k j, k < 8 → j < 29 → C[k * 29 + j]? = some (pc (t k) j)) : C = tcs t := by
  apply Array.ext_getElem?; intro j
  by_cases hj : j < 232
  · have e : j = (j / 29) * 29 + j % 29 := by omega
    rw [tcs_at t j hj]
    have := h (j / 29) (j % 29) (by omega) (by omega)
    rw [← e] at this; exact this
  · rw [Array.getElem?_eq_none (by omega), Array.getElem?_eq_none (by rw [tcs_size]; omega)]
theorem pc_int (p : Pr) (j : Nat) (h : j ≠ 15) : pc p j = .int .i64 (p.f j) := if_neg h
theorem pc_sw (p : Pr) : pc p 15 = .bool p.sw := if_pos rfl
theorem pcs_int (p : Pr) (j : Nat) (h : j < 29) (h' : j ≠ 15) : (pcs p)[j]? = some (.int .i64 (p.f j)) := by rw [pcs_get p j h, pc_int p j h']
theorem pcs_sw (p : Pr) : (pcs p)[15]? = some (.bool p.sw) := by rw [pcs_get p 15 (by decide), pc_sw]
/-- Block b holds the table t. -/
def Blk (w : World) (b : Nat) (t : Nat → Pr) : Prop := w.heap[b]? = some (.cells (tcs t) 29 (0, 0))
theorem Blk.cell {w : World} {b : Nat} {t : Nat → Pr} (h : Blk w b t) (k j : Nat) (hk : k < 8) (hj : j < 29) : w.cell? ⟨b, k * 29 + j, none⟩ = some (pc (t k) j) := by
  rw [cell_of_row _ _ _ _ _ _ h, tcs_get t k j hk hj]
theorem Blk.int {w : World} {b : Nat} {t : Nat → Pr} (h : Blk w b t) (k j : Nat) (hk : k < 8) (hj : j < 29) (hj' : j ≠ 15) : w.cell? ⟨b, k * 29 + j, none⟩ = some (.int .i64 ((t k).f j)) := by
  rw [h.cell k j hk hj, pc_int _ _ hj']
theorem Blk.int0 {w : World} {b : Nat} {t : Nat → Pr} (h : Blk w b t) (k : Nat) (hk : k < 8) : w.cell? ⟨b, k * 29, none⟩ = some (.int .i64 ((t k).f 0)) := h.int k 0 hk (by decide) (by decide)
theorem Blk.sw {w : World} {b : Nat} {t : Nat → Pr} (h : Blk w b t) (k : Nat) (hk : k < 8) : w.cell? ⟨b, k * 29 + 15, none⟩ = some (.bool (t k).sw) := by
  rw [h.cell k 15 hk (by decide), pc_sw]
theorem Blk.below {w w' : World} {b B : Nat} {t : Nat → Pr} (h : Blk w b t) (hb : Below B w w') (hlt : b < B) : Blk w' b t := by
  unfold Blk at *; rw [hb.block b hlt]; exact h
theorem Blk.lt {w : World} {b : Nat} {t : Nat → Pr} (h : Blk w b t) : b < w.heap.size := by
  unfold Blk at h; exact (Array.getElem?_eq_some_iff.1 h).1
theorem Blk.alloc {w : World} {b : Nat} {t : Nat → Pr} (h : Blk w b t) (o : Obj) : Blk (w.alloc o) b t := by
  unfold Blk; show (w.heap.push o)[b]? = _; rw [Array.getElem?_push, if_neg (by have := h.lt; omega)]; exact h
theorem Blk.drew {w : World} {b : Nat} {t : Nat → Pr} (h : Blk w b t) : Blk w.drew b t := h
theorem Blk.new (w : World) (t : Nat → Pr) : Blk (w.alloc (.cells (tcs t) 29)) w.heap.size t := heap_alloc_new w _
theorem one_pc (p : Pr) (j : Nat) : (pc p j).oneCell' = true := by unfold pc; split <;> rfl
theorem pcs_one (p : Pr) : (pcs p).all (·.oneCell') = true := by
  rw [Array.all_eq_true]; intro i hi
  have hi' : i < 29 := by rw [pcs_size] at hi; exact hi
  have h := pcs_get p i hi'
  rw [Array.getElem?_eq_getElem hi] at h
  rw [Option.some.inj h]; exact one_pc p i
theorem tcs_one (t : Nat → Pr) : (tcs t).all (·.oneCell') = true := by
  rw [Array.all_eq_true]; intro i hi
  have hi' : i < 232 := by rw [tcs_size] at hi; exact hi
  have h := tcs_at t i hi'
  rw [Array.getElem?_eq_getElem hi] at h
  rw [Option.some.inj h]; exact one_pc _ _
/-- The cells of entry k lie in the table's block. -/
theorem Blk.range {w : World} {b : Nat} {t : Nat → Pr} (h : Blk w b t) (k : Nat) (hk : k < 8) : w.rangeAt b (k * 29) (pcs (t k)).toList := by
  intro j v hv
  rw [Array.getElem?_toList] at hv
  have hj : j < 29 := by have := (Array.getElem?_eq_some_iff.1 hv).1; rw [pcs_size] at this; exact this
  rw [pcs_get _ _ hj] at hv
  rw [h.cell k j hk hj]; exact hv
theorem Blk.whole {w : World} {b : Nat} {t : Nat → Pr} (h : Blk w b t) : w.rangeAt b 0 (tcs t).toList := by
  intro j v hv
  rw [Array.getElem?_toList] at hv
  rw [cell_of_row _ _ _ _ _ _ h, Nat.zero_add]; exact hv
theorem info28 : (Try.prog.info? 28).map (·.size) = some 29 := by kernel_rfl
theorem info29 : (Try.prog.info? 29).map (·.size) = some 232 := by kernel_rfl
end Go.Proofs.Ytnnknhcdnklalaa.A
