/- Operations on whole processes and whole tables: loads, stores, zero values, indexes, equality. Conditions: the block holds a table (Blk) or a process (PBlk). -/
import Derived.Test.YtnnknhcdnklalaaEq
import Derived.Test.YtnnknhcdnklalaaF5
namespace Go.Proofs.Ytnnknhcdnklalaa.A
open Go Go.RowKit
set_option linter.unusedSimpArgs false
set_option linter.unusedVariables false
/-- Only block b may have turned, and no block has come. -/
structure Upd (w : World) (b : Nat) (w' : World) : Prop where
  os : w'.os = w.os
  tape : w'.tape = w.tape
  output : w'.output = w.output
  size : w'.heap.size = w.heap.size
  block : ∀ k, k ≠ b → w'.heap[k]? = w.heap[k]?
theorem Upd.refl (w : World) (b : Nat) : Upd w b w := ⟨rfl, rfl, rfl, rfl, fun _ _ => rfl⟩
theorem Upd.trans {a w w' : World} {b : Nat} (h : Upd a b w) (k : Upd w b w') : Upd a b w' :=
  ⟨k.os.trans h.os, k.tape.trans h.tape, k.output.trans h.output, k.size.trans h.size, fun i hi => (k.block i hi).trans (h.block i hi)⟩
theorem Upd.below {w w' : World} {b B : Nat} (h : Upd w b w') (hB : B ≤ b) : Below B w w' :=
  ⟨h.os, h.tape, h.output, Nat.le_of_eq h.size.symm, fun k hk => h.block k (by omega)⟩
theorem Upd.blk {w w' : World} {b c : Nat} {t : Nat → Pr} (h : Upd w b w') (hk : Blk w c t) (hne : c ≠ b) : Blk w' c t := by
  unfold Blk at *; rw [h.block c hne]; exact hk
theorem Upd.cell {w w' : World} {b : Nat} (h : Upd w b w') {a : Addr} (hne : a.block ≠ b) : w'.cell? a = w.cell? a := World.cell?_of_block (h.block a.block hne)
theorem Upd.setCell (w : World) (b o : Nat) (v : Value) : Upd w b (w.setCell ⟨b, o, none⟩ v) :=
  ⟨rfl, rfl, rfl, by simp [World.setCell], fun k hk => Below.heap_setCell _ _ _ _ (by simpa using hk)⟩
theorem Upd.setCells (b : Nat) : ∀ (vs : List Value) (o : Nat) (w : World), Upd w b (w.setCells b o vs)
  | [], _, w => Upd.refl w b
  | v :: r, o, w => (Upd.setCell w b o v).trans (Upd.setCells b r (o + 1) _)
theorem setCells_blk (b : Nat) : ∀ (vs : List Value) (o : Nat) (w : World) (C : Array Value) (t : TypeId), w.heap[b]? = some (.cells C t (0, 0)) →
    ∃ C', (w.setCells b o vs).heap[b]? = some (.cells C' t (0, 0)) ∧ C'.size = C.size ∧ ∀ i, i < C.size → C'[i]? = if o ≤ i ∧ i < o + vs.length then vs[i - o]? else C[i]?
  | [], o, w, C, t, h => ⟨C, h, rfl, fun i hi => by rw [if_neg (by rintro ⟨h1, h2⟩; simp only [List.length_nil] at h2; omega)]⟩
  | v :: r, o, w, C, t, h => by
    have h1 := heap_setCell_same w b o C t v h
    obtain ⟨C', e1, e2, e3⟩ := setCells_blk b r (o + 1) _ _ t h1
    refine ⟨C', e1, by simpa using e2, fun i hi => ?_⟩
    rw [e3 i (by simpa using hi)]
    by_cases h0 : i = o
    · subst h0
      rw [if_neg (by omega), if_pos (by simp), Nat.sub_self]
      simp [hi]
    · by_cases h2 : o + 1 ≤ i ∧ i < o + 1 + r.length
      · rw [if_pos h2, if_pos (by simp; omega)]
        have : i - o = (i - (o + 1)) + 1 := by omega
        rw [this]; simp
      · rw [if_neg h2, if_neg (by simp; omega)]
        simp [Array.getElem?_setIfInBounds, Ne.symm h0]
/-- Block b holds the process p. -/
def PBlk (w : World) (b : Nat) (p : Pr) : Prop := w.heap[b]? = some (.cells (pcs p) 28 (0, 0))
theorem PBlk.lt {w : World} {b : Nat} {p : Pr} (h : PBlk w b p) : b < w.heap.size := by unfold PBlk at h; exact (Array.getElem?_eq_some_iff.1 h).1
theorem PBlk.int {w : World} {b : Nat} {p : Pr} (h : PBlk w b p) (j : Nat) (hj : j < 29) (hj' : j ≠ 15) : w.cell? ⟨b, j, none⟩ = some (.int .i64 (p.f j)) := by
  rw [cell_of_row _ _ _ _ _ _ h, pcs_int p j hj hj']
theorem PBlk.below {w w' : World} {b B : Nat} {p : Pr} (h : PBlk w b p) (hb : Below B w w') (hlt : b < B) : PBlk w' b p := by
  unfold PBlk at *; rw [hb.block b hlt]; exact h
theorem PBlk.alloc {w : World} {b : Nat} {p : Pr} (h : PBlk w b p) (o : Obj) : PBlk (w.alloc o) b p := by
  unfold PBlk; show (w.heap.push o)[b]? = _; rw [Array.getElem?_push, if_neg (by have := h.lt; omega)]; exact h
theorem PBlk.new (w : World) (p : Pr) : PBlk (w.alloc (.cells (pcs p) 28)) w.heap.size p := heap_alloc_new w _
theorem PBlk.range {w : World} {b : Nat} {p : Pr} (h : PBlk w b p) : w.rangeAt b 0 (pcs p).toList := by
  intro j v hv
  rw [Array.getElem?_toList] at hv
  rw [cell_of_row _ _ _ _ _ _ h, Nat.zero_add]; exact hv
theorem Upd.pblk {w w' : World} {b c : Nat} {p : Pr} (h : Upd w b w') (hk : PBlk w c p) (hne : c ≠ b) : PBlk w' c p := by
  unfold PBlk at *; rw [h.block c hne]; exact hk
def setf (p : Pr) (j : Nat) (v : Int) : Pr := ⟨fun i => if i = j then v else p.f i, p.sw⟩
def updT (t : Nat → Pr) (k : Nat) (p : Pr) : Nat → Pr := fun i => if i = k then p else t i
theorem updT_same (t : Nat → Pr) (k : Nat) (p : Pr) : updT t k p k = p := if_pos rfl
theorem updT_other (t : Nat → Pr) (k i : Nat) (p : Pr) (h : i ≠ k) : updT t k p i = t i := if_neg h
theorem setf_same (p : Pr) (j : Nat) (v : Int) : (setf p j v).f j = v := if_pos rfl
theorem setf_other (p : Pr) (j i : Nat) (v : Int) (h : i ≠ j) : (setf p j v).f i = p.f i := if_neg h
theorem pc_setf (p : Pr) (j i : Nat) (v : Int) (hj : j ≠ 15) : pc (setf p j v) i = if i = j then .int .i64 v else pc p i := by
  unfold pc setf
  by_cases h : i = j
  · subst h; simp [hj]
  · simp [h]
theorem pcs_set (p : Pr) (j : Nat) (v : Int) (hj : j < 29) (hj' : j ≠ 15) : (pcs p).setIfInBounds j (.int .i64 v) = pcs (setf p j v) := by
  refine pcs_ext (by simp [pcs_size]) fun i hi => ?_
  rw [Array.getElem?_setIfInBounds, pc_setf p j i v hj']
  by_cases h : j = i
  · subst h; simp [pcs_size, hi]
  · rw [if_neg h, if_neg (Ne.symm h), pcs_get p i hi]
theorem tcs_upd {t : Nat → Pr} {k : Nat} {p : Pr} {C : Array Value} (hk : k < 8) (hs : C.size = 232) (h : ∀ i, i < 232 → C[i]? = if k * 29 ≤ i ∧ i < k * 29 + 29 then (pcs p)[i - k * 29]? else (tcs t)[i]?) : C = tcs (updT t k p) := by
  refine tcs_ext hs fun m j hm hj => ?_
  rw [h _ (by omega)]
  by_cases e : m = k
  · subst e
    rw [if_pos (by omega), updT_same, show m * 29 + j - m * 29 = j by omega, pcs_get p j hj]
  · rw [if_neg (by omega), updT_other _ _ _ _ e, tcs_get t m j hm hj]
theorem tcs_set (t : Nat → Pr) (k j : Nat) (v : Int) (hk : k < 8) (hj : j < 29) (hj' : j ≠ 15) : (tcs t).setIfInBounds (k * 29 + j) (.int .i64 v) = tcs (updT t k (setf (t k) j v)) := by
  refine tcs_upd hk (by simp [tcs_size]) fun i hi => ?_
  rw [Array.getElem?_setIfInBounds]
  by_cases h : k * 29 + j = i
  · subst h
    rw [if_pos rfl, if_pos (by rw [tcs_size]; omega), if_pos (by omega), show k * 29 + j - k * 29 = j by omega, pcs_int _ j hj hj', setf_same]
  · rw [if_neg h]
    split
    · rw [pcs_get _ _ (by omega), pc_setf _ _ _ _ hj', if_neg (by omega)]
      have := tcs_get t k (i - k * 29) hk (by omega)
      rw [show k * 29 + (i - k * 29) = i by omega] at this; exact this
    · rfl
theorem pcs_upd {C : Array Value} {p : Pr} (hs : C.size = 29) (h : ∀ i, i < 29 → C[i]? = (pcs p)[i]?) : C = pcs p := pcs_ext hs fun j hj => by rw [h j hj, pcs_get p j hj]
section
variable {ops : Array Oper} {o : Oper} {rest : List Oper} {a : Act} {Q : Exit → Act → World → Prop} {w : World}
theorem st_val {P : Program} {v : Value} {w' : World} (hw : Region.wanted o (yielded ops a.tmps) = true) (hr : (execOp a.eval o).run P w = .ok (.value v) w') (h : wpList P ops Q rest (a.put o.dst v) w') : wpList P ops Q (o :: rest) a w :=
  wpList_step (fun K hK => by rw [if_pos hw]; unfold Oper.wp; rw [hr]; exact hK _ _ h)
theorem there_blk {b n : Nat} {C : Array Value} {t : TypeId} (hb : w.heap[b]? = some (.cells C t (0, 0))) (off : Nat) (h : off + n ≤ C.size) : w.there b off n := fun j hj => by
  refine ⟨?_, ?_⟩
  · rw [cell_of_row _ _ _ _ _ _ hb, Array.getElem?_eq_getElem (by omega)]; rfl
  · rw [frozen_of_row _ _ _ _ _ hb]
/-- A process is stored into the table. -/
theorem st_store28 {b k : Nat} {t : Nat → Pr} {p : Pr} {x y : Operand} (hw : Region.wanted o (yielded ops a.tmps) = true) (ho : o.op = .store 28 x y) (hx : a.eval x = .pointer (some ⟨b, k * 29, none⟩)) (hy : a.eval y = .agg (pcs p)) (hb : Blk w b t) (hk : k < 8)
    (h : ∀ w', Blk w' b (updT t k p) → Upd w b w' → wpList Try.prog ops Q rest (a.put o.dst undef) w') : wpList Try.prog ops Q (o :: rest) a w := by
  refine wpList_step (fun K hK => ?_)
  rw [if_pos hw]
  refine wp_store_mid 28 x y ho b (k * 29) (pcs p) hx hy (there_blk hb _ (by rw [tcs_size, pcs_size]; omega)) (by rw [pcs_size]; exact info28) (pcs_one p) (hK _ _ (h _ ?_ (Upd.setCells b _ _ _)))
  obtain ⟨C', e1, e2, e3⟩ := setCells_blk b (pcs p).toList (k * 29) w _ _ hb
  have e := tcs_upd (t := t) (p := p) (C := C') hk (by rw [e2, tcs_size]) (fun i hi => by
    rw [e3 i (by rw [tcs_size]; exact hi), Array.length_toList, pcs_size, Array.getElem?_toList])
  unfold Blk; rw [e1, e]
/-- A process is stored into a block of its own. -/
theorem st_pstore28 {b : Nat} {p q : Pr} {x y : Operand} (hw : Region.wanted o (yielded ops a.tmps) = true) (ho : o.op = .store 28 x y) (hx : a.eval x = .pointer (some ⟨b, 0, none⟩)) (hy : a.eval y = .agg (pcs p)) (hb : PBlk w b q)
    (h : ∀ w', PBlk w' b p → Upd w b w' → wpList Try.prog ops Q rest (a.put o.dst undef) w') : wpList Try.prog ops Q (o :: rest) a w := by
  refine wpList_step (fun K hK => ?_)
  rw [if_pos hw]
  refine wp_store_mid 28 x y ho b 0 (pcs p) hx hy (there_blk hb _ (by rw [pcs_size, pcs_size]; omega)) (by rw [pcs_size]; exact info28) (pcs_one p) (hK _ _ (h _ ?_ (Upd.setCells b _ _ _)))
  obtain ⟨C', e1, e2, e3⟩ := setCells_blk b (pcs p).toList 0 w _ _ hb
  have e := pcs_upd (p := p) (C := C') (by rw [e2, pcs_size]) (fun i hi => by
    rw [e3 i (by rw [pcs_size]; exact hi), Array.length_toList, pcs_size, Array.getElem?_toList, if_pos (by omega), Nat.sub_zero])
  unfold PBlk; rw [e1, e]
/-- A whole table is stored. -/
theorem st_store29 {b : Nat} {t t' : Nat → Pr} {x y : Operand} (hw : Region.wanted o (yielded ops a.tmps) = true) (ho : o.op = .store 29 x y) (hx : a.eval x = .pointer (some ⟨b, 0, none⟩)) (hy : a.eval y = .agg (tcs t')) (hb : Blk w b t)
    (h : ∀ w', Blk w' b t' → Upd w b w' → wpList Try.prog ops Q rest (a.put o.dst undef) w') : wpList Try.prog ops Q (o :: rest) a w := by
  refine wpList_step (fun K hK => ?_)
  rw [if_pos hw]
  refine wp_store_mid 29 x y ho b 0 (tcs t') hx hy (there_blk hb _ (by rw [tcs_size, tcs_size]; omega)) (by rw [tcs_size]; exact info29) (tcs_one t') (hK _ _ (h _ ?_ (Upd.setCells b _ _ _)))
  obtain ⟨C', e1, e2, e3⟩ := setCells_blk b (tcs t').toList 0 w _ _ hb
  unfold Blk; rw [e1]
  rw [tcs_ext (t := t') (C := C') (by rw [e2, tcs_size]) (fun k j hk hj => by
    rw [e3 _ (by rw [tcs_size]; omega), Array.length_toList, tcs_size, Array.getElem?_toList, if_pos (by omega), Nat.sub_zero, tcs_get t' k j hk hj])]
/-- A number is stored into a field of an entry. -/
theorem st_field {b k j : Nat} {n : Int} {t : Nat → Pr} {x y : Operand} {off : Nat} (hw : Region.wanted o (yielded ops a.tmps) = true) (ho : o.op = .store 3 x y) (hx : a.eval x = .pointer (some ⟨b, off, none⟩)) (hoff : off = k * 29 + j) (hy : a.eval y = .int .i64 n) (hb : Blk w b t) (hk : k < 8) (hj : j < 29) (hj' : j ≠ 15)
    (h : ∀ w', Blk w' b (updT t k (setf (t k) j n)) → Upd w b w' → wpList Try.prog ops Q rest (a.put o.dst undef) w') : wpList Try.prog ops Q (o :: rest) a w := by
  subst hoff
  refine wpList_step (fun K hK => ?_)
  rw [if_pos hw]
  have hcell := hb.int k j hk hj hj'
  have hfr := frozen_of_row _ _ (k * 29 + j) _ _ hb
  have hB : Blk (w.setCell ⟨b, k * 29 + j, none⟩ (.int .i64 n)) b (updT t k (setf (t k) j n)) := by
    unfold Blk; rw [heap_setCell_same w b _ _ _ _ hb, tcs_set t k j n hk hj hj']
  have := h _ hB (Upd.setCell _ _ _ _)
  unfold Oper.wp execOp
  simp only [ho, hx, hy]
  simp [go_sem, hcell, hfr]
  exact hK _ _ this
theorem st_pfield {b j : Nat} {n : Int} {p : Pr} {x y : Operand} (hw : Region.wanted o (yielded ops a.tmps) = true) (ho : o.op = .store 3 x y) (hx : a.eval x = .pointer (some ⟨b, j, none⟩)) (hy : a.eval y = .int .i64 n) (hb : PBlk w b p) (hj : j < 29) (hj' : j ≠ 15)
    (h : ∀ w', PBlk w' b (setf p j n) → Upd w b w' → wpList Try.prog ops Q rest (a.put o.dst undef) w') : wpList Try.prog ops Q (o :: rest) a w := by
  refine wpList_step (fun K hK => ?_)
  rw [if_pos hw]
  have hcell := hb.int j hj hj'
  have hfr := frozen_of_row _ _ j _ _ hb
  have hB : PBlk (w.setCell ⟨b, j, none⟩ (.int .i64 n)) b (setf p j n) := by
    unfold PBlk; rw [heap_setCell_same w b _ _ _ _ hb, pcs_set p j n hj hj']
  have := h _ hB (Upd.setCell _ _ _ _)
  unfold Oper.wp execOp
  simp only [ho, hx, hy]
  simp [go_sem, hcell, hfr]
  exact hK _ _ this
/-- A process is loaded. -/
theorem st_load28 {b k : Nat} {t : Nat → Pr} {x : Operand} (hw : Region.wanted o (yielded ops a.tmps) = true) (ho : o.op = .load 28 x) (hx : a.eval x = .pointer (some ⟨b, k * 29, none⟩)) (hb : Blk w b t) (hk : k < 8)
    (h : wpList Try.prog ops Q rest (a.put o.dst (.agg (pcs (t k)))) w) : wpList Try.prog ops Q (o :: rest) a w :=
  wpList_step (fun K hK => by rw [if_pos hw]; exact wp_load_mid 28 x ho b (k * 29) hx (pcs (t k)).toList _ (hb.range k hk) Try.underlying28 rfl (info28l _) (hK _ _ h))
theorem st_pload28 {b : Nat} {p : Pr} {x : Operand} (hw : Region.wanted o (yielded ops a.tmps) = true) (ho : o.op = .load 28 x) (hx : a.eval x = .pointer (some ⟨b, 0, none⟩)) (hb : PBlk w b p)
    (h : wpList Try.prog ops Q rest (a.put o.dst (.agg (pcs p))) w) : wpList Try.prog ops Q (o :: rest) a w :=
  wpList_step (fun K hK => by rw [if_pos hw]; exact wp_load_mid 28 x ho b 0 hx (pcs p).toList _ hb.range Try.underlying28 rfl (info28l _) (hK _ _ h))
theorem st_load29 {b : Nat} {t : Nat → Pr} {x : Operand} (hw : Region.wanted o (yielded ops a.tmps) = true) (ho : o.op = .load 29 x) (hx : a.eval x = .pointer (some ⟨b, 0, none⟩)) (hb : Blk w b t)
    (h : wpList Try.prog ops Q rest (a.put o.dst (.agg (tcs t))) w) : wpList Try.prog ops Q (o :: rest) a w :=
  wpList_step (fun K hK => by rw [if_pos hw]; exact wp_load_mid 29 x ho b 0 hx (tcs t).toList _ hb.whole Try.underlying29 rfl (info29l _) (hK _ _ h))
end
end Go.Proofs.Ytnnknhcdnklalaa.A
