/- Blocks of the cells of a unit, of its tables and of a page: what a load, a store, a zero value gives. Conditions: the block holds such cells (Blk). -/
import Derived.Test.YtmlhdepemeodkaaProg
import Derived.WalkKit
import Derived.LoopN
import Derived.ChangeKeysEq
import Derived.Laws.ResultCell
import Derived.Deep.MidRow
import Derived.Deep.RegionHeld
namespace Go.Proofs.Ytmlhdepemeodkaa.A
open Go Go.RowKit
set_option linter.unusedSimpArgs false
set_option linter.unusedVariables false
theorem hidI {p : Prop} (h : p) : Hid p := h
/-- Cells by place: numbers, and, at every fourth place, Bools. -/
structure Ar where (f : Nat → Int) (x : Nat → Bool)
def cv (p : Nat) (u : Ar) (i : Nat) : Value := if (i + p) % 4 = 0 then .bool (u.x i) else .int .i64 (u.f i)
theorem arr_ex (n p : Nat) (u : Ar) : ∃ C : Array Value, C.size = n ∧ ∀ j, j < n → C[j]? = some (cv p u j) :=
  ⟨Array.ofFn (n := n) fun i => cv p u i, by simp, fun j h => by rw [Array.getElem?_ofFn, dif_pos h]⟩
/-- n cells (chosen, so that no tactic unfolds them). -/
noncomputable def arr (n p : Nat) (u : Ar) : Array Value := Classical.choose (arr_ex n p u)
theorem arr_size (n p : Nat) (u : Ar) : (arr n p u).size = n := (Classical.choose_spec (arr_ex n p u)).1
theorem arr_get {n : Nat} (p : Nat) (u : Ar) {j : Nat} (h : j < n) : (arr n p u)[j]? = some (cv p u j) := (Classical.choose_spec (arr_ex n p u)).2 j h
theorem arr_ext {n p : Nat} {u : Ar} {C : Array Value} (hs : C.size = n) (h : ∀ j, j < n → C[j]? = some (cv p u j)) : C = arr n p u := by
  apply Array.ext_getElem?; intro j
  by_cases hj : j < n
  · rw [h j hj, arr_get p u hj]
  · rw [Array.getElem?_eq_none (by omega), Array.getElem?_eq_none (by rw [arr_size]; omega)]
theorem arr_congr {n p : Nat} {u v : Ar} (h : ∀ j, j < n → cv p u j = cv p v j) : arr n p u = arr n p v :=
  arr_ext (arr_size _ _ _) fun j hj => by rw [arr_get p u hj, h j hj]
theorem one_cv (p : Nat) (u : Ar) (j : Nat) : (cv p u j).oneCell' = true := by unfold cv; split <;> rfl
theorem arr_one (n p : Nat) (u : Ar) : (arr n p u).all (·.oneCell') = true := by
  rw [Array.all_eq_true]; intro i hi
  have hi' : i < n := by rw [arr_size] at hi; exact hi
  have h := arr_get (n := n) p u hi'
  rw [Array.getElem?_eq_getElem hi] at h
  rw [Option.some.inj h]; exact one_cv _ _ _
def sh (u : Ar) (o : Nat) : Ar := ⟨fun i => u.f (o + i), fun i => u.x (o + i)⟩
def up (u : Ar) (o n : Nat) (d : Ar) : Ar := ⟨fun i => if o ≤ i ∧ i < o + n then d.f (i - o) else u.f i, fun i => if o ≤ i ∧ i < o + n then d.x (i - o) else u.x i⟩
def sf (u : Ar) (o : Nat) (v : Int) : Ar := ⟨fun i => if i = o then v else u.f i, u.x⟩
def sx (u : Ar) (o : Nat) (v : Bool) : Ar := ⟨u.f, fun i => if i = o then v else u.x i⟩
theorem cv_sh {p q o : Nat} (u : Ar) (hp : q = (p + o) % 4) (i : Nat) : cv q (sh u o) i = cv p u (o + i) := by
  unfold cv sh
  by_cases h : (o + i + p) % 4 = 0
  · rw [if_pos h, if_pos (by omega)]
  · rw [if_neg h, if_neg (by omega)]
theorem cv_up {p q o n : Nat} (u d : Ar) (hp : q = (p + o) % 4) (i : Nat) : cv p (up u o n d) i = if o ≤ i ∧ i < o + n then cv q d (i - o) else cv p u i := by
  unfold cv up
  by_cases h : o ≤ i ∧ i < o + n
  · rw [if_pos h]
    by_cases h2 : (i + p) % 4 = 0
    · rw [if_pos h2, if_pos (by omega)]; simp only [if_pos h]
    · rw [if_neg h2, if_neg (by omega)]; simp only [if_pos h]
  · rw [if_neg h]; simp only [if_neg h]
theorem cv_sf {p o : Nat} (u : Ar) (v : Int) (hp : (o + p) % 4 ≠ 0) (i : Nat) : cv p (sf u o v) i = if i = o then .int .i64 v else cv p u i := by
  unfold cv sf
  by_cases h : i = o
  · subst h; rw [if_pos rfl, if_neg hp]; simp
  · rw [if_neg h]; simp only [if_neg h]
theorem cv_sx {p o : Nat} (u : Ar) (v : Bool) (hp : (o + p) % 4 = 0) (i : Nat) : cv p (sx u o v) i = if i = o then .bool v else cv p u i := by
  unfold cv sx
  by_cases h : i = o
  · subst h; rw [if_pos rfl, if_pos hp]; simp
  · rw [if_neg h]; simp only [if_neg h]
/-! ### worlds -/
/-- Only block b may have turned, and no block has come. -/
structure Upd (w : World) (b : Nat) (w' : World) : Prop where
  os : w'.os = w.os
  tape : w'.tape = w.tape
  output : w'.output = w.output
  size : w'.heap.size = w.heap.size
  block : ∀ k, k ≠ b → w'.heap[k]? = w.heap[k]?
theorem Upd.refl (w : World) (b : Nat) : Upd w b w := ⟨rfl, rfl, rfl, rfl, fun _ _ => rfl⟩
theorem Upd.trans {a w w' : World} {b : Nat} (h : Upd a b w) (k : Upd w b w') : Upd a b w' :=
  ⟨k.os.trans h.os, k.tape.trans h.tape, k.output.trans h.output, k.size.trans h.size, fun i hi => (k.block i hi).trans (h.block i hi)⟩
theorem Upd.below {w w' : World} {b B : Nat} (h : Upd w b w') (hB : B ≤ b) : Below B w w' :=
  ⟨h.os, h.tape, h.output, Nat.le_of_eq h.size.symm, fun k hk => h.block k (by omega)⟩
theorem Upd.setCell (w : World) (b o : Nat) (v : Value) : Upd w b (w.setCell ⟨b, o, none⟩ v) :=
  ⟨rfl, rfl, rfl, by simp [World.setCell], fun k hk => Below.heap_setCell _ _ _ _ (by simpa using hk)⟩
theorem Upd.setCells (b : Nat) : ∀ (vs : List Value) (o : Nat) (w : World), Upd w b (w.setCells b o vs)
  | [], _, w => Upd.refl w b
  | v :: r, o, w => (Upd.setCell w b o v).trans (Upd.setCells b r (o + 1) _)
theorem setCells_blk (b : Nat) : ∀ (vs : List Value) (o : Nat) (w : World) (C : Array Value) (t : TypeId), w.heap[b]? = some (.cells C t (0, 0)) →
    ∃ C', (w.setCells b o vs).heap[b]? = some (.cells C' t (0, 0)) ∧ C'.size = C.size ∧ ∀ i, i < C.size → C'[i]? = if o ≤ i ∧ i < o + vs.length then vs[i - o]? else C[i]?
  | [], o, w, C, t, h => ⟨C, h, rfl, fun i hi => by rw [if_neg (by rintro ⟨h1, h2⟩; simp only [List.length_nil] at h2; omega)]⟩
  | v :: r, o, w, C, t, h => by
    have h1 := heap_setCell_same w b o C t v h
    obtain ⟨C', e1, e2, e3⟩ := setCells_blk b r (o + 1) _ _ t h1
    refine ⟨C', e1, by simpa using e2, fun i hi => ?_⟩
    rw [e3 i (by simpa using hi)]
    by_cases h0 : i = o
    · subst h0
      rw [if_neg (by omega), if_pos (by simp), Nat.sub_self]
      simp [hi]
    · by_cases h2 : o + 1 ≤ i ∧ i < o + 1 + r.length
      · rw [if_pos h2, if_pos (by simp; omega)]
        have : i - o = (i - (o + 1)) + 1 := by omega
        rw [this]; simp
      · rw [if_neg h2, if_neg (by simp; omega)]
        simp [Array.getElem?_setIfInBounds, Ne.symm h0]
/-- Block b holds n cells. -/
def Blk (w : World) (b n p : Nat) (t : TypeId) (u : Ar) : Prop := w.heap[b]? = some (.cells (arr n p u) t (0, 0))
section
variable {w w' : World} {b c B n p q o s : Nat} {t : TypeId} {u d : Ar}
theorem Blk.lt (h : Blk w b n p t u) : b < w.heap.size := by unfold Blk at h; exact (Array.getElem?_eq_some_iff.1 h).1
theorem Blk.cell (h : Blk w b n p t u) (j : Nat) (hj : j < n) : w.cell? ⟨b, j, none⟩ = some (cv p u j) := by rw [cell_of_row _ _ _ _ _ _ h, arr_get p u hj]
theorem Blk.int (h : Blk w b n p t u) (j : Nat) (hj : j < n) (hp : (j + p) % 4 ≠ 0) : w.cell? ⟨b, j, none⟩ = some (.int .i64 (u.f j)) := by rw [h.cell j hj]; unfold cv; rw [if_neg hp]
theorem Blk.bool (h : Blk w b n p t u) (j : Nat) (hj : j < n) (hp : (j + p) % 4 = 0) : w.cell? ⟨b, j, none⟩ = some (.bool (u.x j)) := by rw [h.cell j hj]; unfold cv; rw [if_pos hp]
theorem Blk.below (h : Blk w b n p t u) (hb : Below B w w') (hlt : b < B) : Blk w' b n p t u := by unfold Blk at *; rw [hb.block b hlt]; exact h
theorem Blk.alloc (h : Blk w b n p t u) (x : Obj) : Blk (w.alloc x) b n p t u := by
  unfold Blk; show (w.heap.push x)[b]? = _; rw [Array.getElem?_push, if_neg (by have := h.lt; omega)]; exact h
theorem Blk.upd (hk : Blk w c n p t u) (h : Upd w b w') (hne : c ≠ b) : Blk w' c n p t u := by unfold Blk at *; rw [h.block c hne]; exact hk
theorem Blk.new (w : World) (n p : Nat) (t : TypeId) (u : Ar) : Blk (w.alloc (.cells (arr n p u) t)) w.heap.size n p t u := heap_alloc_new w _
theorem size1 (w : World) (x : Obj) : (w.alloc x).heap.size = w.heap.size + 1 := by show (w.heap.push x).size = _; simp
theorem Blk.new1 (w : World) (x : Obj) (n p : Nat) (t : TypeId) (u : Ar) : Blk ((w.alloc x).alloc (.cells (arr n p u) t)) (w.heap.size + 1) n p t u := by
  rw [← size1 w x]; exact Blk.new _ _ _ _ _
theorem up_arr {n p : Nat} {u d : Ar} : arr n p (up u 0 n d) = arr n p d := arr_congr fun j hj => by
  unfold cv up; simp only [Nat.zero_le, true_and, Nat.zero_add, if_pos hj, Nat.sub_zero]
theorem sh_zero (u : Ar) : sh u 0 = u := by unfold sh; simp
theorem Blk.range (h : Blk w b n p t u) (o s : Nat) (hs : o + s ≤ n) (hp : q = (p + o) % 4) : w.rangeAt b o (arr s q (sh u o)).toList := by
  intro j v hv
  rw [Array.getElem?_toList] at hv
  have hj : j < s := by have := (Array.getElem?_eq_some_iff.1 hv).1; rw [arr_size] at this; exact this
  rw [arr_get _ _ hj, cv_sh u hp] at hv
  rw [h.cell (o + j) (by omega)]; exact hv
theorem there_blk {C : Array Value} (hb : w.heap[b]? = some (.cells C t (0, 0))) (off : Nat) (h : off + n ≤ C.size) : w.there b off n := fun j hj => by
  refine ⟨?_, ?_⟩
  · rw [cell_of_row _ _ _ _ _ _ hb, Array.getElem?_eq_getElem (by omega)]; rfl
  · rw [frozen_of_row _ _ _ _ _ hb]
theorem Blk.setCells (h : Blk w b n p t u) (o s : Nat) (hs : o + s ≤ n) (hp : q = (p + o) % 4) : Blk (w.setCells b o (arr s q d).toList) b n p t (up u o s d) := by
  obtain ⟨C', e1, e2, e3⟩ := setCells_blk b (arr s q d).toList o w _ _ h
  unfold Blk; rw [e1]
  rw [arr_ext (C := C') (p := p) (u := up u o s d) (n := n) (by rw [e2, arr_size]) (fun i hi => by
    rw [e3 i (by rw [arr_size]; exact hi), Array.length_toList, arr_size, Array.getElem?_toList, cv_up u d hp]
    split
    · rw [arr_get _ _ (by omega)]
    · rw [arr_get _ _ hi])]
theorem Blk.setF (h : Blk w b n p t u) (o : Nat) (v : Int) (hs : o < n) (hp : (o + p) % 4 ≠ 0) : Blk (w.setCell ⟨b, o, none⟩ (.int .i64 v)) b n p t (sf u o v) := by
  unfold Blk; rw [heap_setCell_same w b _ _ _ _ h]
  rw [arr_ext (C := (arr n p u).setIfInBounds o (.int .i64 v)) (p := p) (u := sf u o v) (n := n) (by simp [arr_size]) (fun i hi => by
    rw [Array.getElem?_setIfInBounds, cv_sf u v hp, arr_size]
    by_cases e : o = i
    · subst e; rw [if_pos rfl, if_pos hi, if_pos rfl]
    · rw [if_neg e, if_neg (Ne.symm e), arr_get _ _ hi])]
theorem Blk.setX (h : Blk w b n p t u) (o : Nat) (v : Bool) (hs : o < n) (hp : (o + p) % 4 = 0) : Blk (w.setCell ⟨b, o, none⟩ (.bool v)) b n p t (sx u o v) := by
  unfold Blk; rw [heap_setCell_same w b _ _ _ _ h]
  rw [arr_ext (C := (arr n p u).setIfInBounds o (.bool v)) (p := p) (u := sx u o v) (n := n) (by simp [arr_size]) (fun i hi => by
    rw [Array.getElem?_setIfInBounds, cv_sx u v hp, arr_size]
    by_cases e : o = i
    · subst e; rw [if_pos rfl, if_pos hi, if_pos rfl]
    · rw [if_neg e, if_neg (Ne.symm e), arr_get _ _ hi])]
end
def az : Ar := ⟨fun _ => 0, fun _ => false⟩
theorem info27 : (Try.prog.info? 27).map (·.size) = some 67 := by kernel_rfl
def zl27 : List Value := (List.range 67).map (cv 0 az)
theorem zl27_arr : zl27.toArray = arr 67 0 az := by
  refine arr_ext (by simp [zl27]) fun j hj => ?_
  rw [List.getElem?_toArray, zl27, List.getElem?_map, List.getElem?_range hj]; rfl
theorem zero27 (w : World) : (zeroValue 27).run Try.prog w = .ok (.agg (arr 67 0 az)) w := by rw [← zl27_arr]; kernel_rfl
theorem info25 : (Try.prog.info? 25).map (·.size) = some 64 := by kernel_rfl
def zl25 : List Value := (List.range 64).map (cv 1 az)
theorem zl25_arr : zl25.toArray = arr 64 1 az := by
  refine arr_ext (by simp [zl25]) fun j hj => ?_
  rw [List.getElem?_toArray, zl25, List.getElem?_map, List.getElem?_range hj]; rfl
theorem zero25 (w : World) : (zeroValue 25).run Try.prog w = .ok (.agg (arr 64 1 az)) w := by rw [← zl25_arr]; kernel_rfl
theorem info24 : (Try.prog.info? 24).map (·.size) = some 32 := by kernel_rfl
def zl24 : List Value := (List.range 32).map (cv 1 az)
theorem zl24_arr : zl24.toArray = arr 32 1 az := by
  refine arr_ext (by simp [zl24]) fun j hj => ?_
  rw [List.getElem?_toArray, zl24, List.getElem?_map, List.getElem?_range hj]; rfl
theorem zero24 (w : World) : (zeroValue 24).run Try.prog w = .ok (.agg (arr 32 1 az)) w := by rw [← zl24_arr]; kernel_rfl
theorem info23 : (Try.prog.info? 23).map (·.size) = some 4 := by kernel_rfl
def zl23 : List Value := (List.range 4).map (cv 1 az)
theorem zl23_arr : zl23.toArray = arr 4 1 az := by
  refine arr_ext (by simp [zl23]) fun j hj => ?_
  rw [List.getElem?_toArray, zl23, List.getElem?_map, List.getElem?_range hj]; rfl
theorem zero23 (w : World) : (zeroValue 23).run Try.prog w = .ok (.agg (arr 4 1 az)) w := by rw [← zl23_arr]; kernel_rfl
theorem build27 (w : World) : (Instr.build 27 #[]).run Try.prog w = .ok (.agg (arr 67 0 az)) w := by rw [← zl27_arr]; kernel_rfl
section
variable {ops : Array Oper} {o : Oper} {rest : List Oper} {a : Act} {Q : Exit → Act → World → Prop} {w : World}
theorem g_alloc (t : TypeId) {P : Program} (h : wpList P ops Q (o :: rest) a w) (ho : o.op = .alloc t) : wpList P ops Q (o :: rest) a w := h
theorem g_store (t : TypeId) {P : Program} {x y : Operand} (h : wpList P ops Q (o :: rest) a w) (ho : o.op = .store t x y) : wpList P ops Q (o :: rest) a w := h
theorem g_load (t : TypeId) {P : Program} {x : Operand} (h : wpList P ops Q (o :: rest) a w) (ho : o.op = .load t x) : wpList P ops Q (o :: rest) a w := h
theorem g_build (t : TypeId) {P : Program} {x : Array (Nat × Operand)} (h : wpList P ops Q (o :: rest) a w) (ho : o.op = .build t x) : wpList P ops Q (o :: rest) a w := h
theorem g_index (t : TypeId) {P : Program} {x y : Operand} (h : wpList P ops Q (o :: rest) a w) (ho : o.op = .index t x y) : wpList P ops Q (o :: rest) a w := h
theorem st_val {P : Program} {v : Value} {w' : World} (hw : Region.wanted o (yielded ops a.tmps) = true) (hr : (execOp a.eval o).run P w = .ok (.value v) w') (h : wpList P ops Q rest (a.put o.dst v) w') : wpList P ops Q (o :: rest) a w :=
  wpList_step (fun K hK => by rw [if_pos hw]; unfold Oper.wp; rw [hr]; exact hK _ _ h)
theorem st_load27 {b n off q : Nat} {t : TypeId} {u : Ar} {x : Operand} (hw : Region.wanted o (yielded ops a.tmps) = true) (ho : o.op = .load 27 x) (hx : a.eval x = .pointer (some ⟨b, off, none⟩)) (hb : Blk w b n q t u) (hs : off + 67 ≤ n) (hp : 0 = (q + off) % 4)
    (h : wpList Try.prog ops Q rest (a.put o.dst (.agg (arr 67 0 (sh u off)))) w) : wpList Try.prog ops Q (o :: rest) a w :=
  wpList_step (fun K hK => by rw [if_pos hw]; exact wp_load_mid 27 x ho b off hx (arr 67 0 (sh u off)).toList _ (hb.range off 67 hs hp) Try.underlying27 rfl (by rw [Array.length_toList, arr_size]; exact info27) (hK _ _ h))
theorem st_store27 {b n off q : Nat} {t : TypeId} {u d : Ar} {x y : Operand} (hw : Region.wanted o (yielded ops a.tmps) = true) (ho : o.op = .store 27 x y) (hx : a.eval x = .pointer (some ⟨b, off, none⟩)) (hy : a.eval y = .agg (arr 67 0 d)) (hb : Blk w b n q t u) (hs : off + 67 ≤ n) (hp : 0 = (q + off) % 4)
    (h : ∀ w', Blk w' b n q t (up u off 67 d) → Upd w b w' → wpList Try.prog ops Q rest (a.put o.dst undef) w') : wpList Try.prog ops Q (o :: rest) a w := by
  refine wpList_step (fun K hK => ?_)
  rw [if_pos hw]
  exact wp_store_mid 27 x y ho b off (arr 67 0 d) hx hy (there_blk hb _ (by rw [arr_size, arr_size]; exact hs)) (by rw [arr_size]; exact info27) (arr_one _ _ _) (hK _ _ (h _ (hb.setCells off 67 hs hp) (Upd.setCells b _ _ _)))
theorem st_alloc27 (hw : Region.wanted o (yielded ops a.tmps) = true) (ho : o.op = .alloc 27)
    (h : wpList Try.prog ops Q rest (a.put o.dst (.pointer (some ⟨w.heap.size, 0, none⟩))) (w.alloc (.cells (arr 67 0 az) 27))) : wpList Try.prog ops Q (o :: rest) a w :=
  st_val hw (by unfold execOp; simp only [ho, Instr.alloc, Sem.run_bind, zero27, Result.andThen_ok]; simp [go_sem, Value.cells]) h
theorem st_load25 {b n off q : Nat} {t : TypeId} {u : Ar} {x : Operand} (hw : Region.wanted o (yielded ops a.tmps) = true) (ho : o.op = .load 25 x) (hx : a.eval x = .pointer (some ⟨b, off, none⟩)) (hb : Blk w b n q t u) (hs : off + 64 ≤ n) (hp : 1 = (q + off) % 4)
    (h : wpList Try.prog ops Q rest (a.put o.dst (.agg (arr 64 1 (sh u off)))) w) : wpList Try.prog ops Q (o :: rest) a w :=
  wpList_step (fun K hK => by rw [if_pos hw]; exact wp_load_mid 25 x ho b off hx (arr 64 1 (sh u off)).toList _ (hb.range off 64 hs hp) Try.underlying25 rfl (by rw [Array.length_toList, arr_size]; exact info25) (hK _ _ h))
theorem st_store25 {b n off q : Nat} {t : TypeId} {u d : Ar} {x y : Operand} (hw : Region.wanted o (yielded ops a.tmps) = true) (ho : o.op = .store 25 x y) (hx : a.eval x = .pointer (some ⟨b, off, none⟩)) (hy : a.eval y = .agg (arr 64 1 d)) (hb : Blk w b n q t u) (hs : off + 64 ≤ n) (hp : 1 = (q + off) % 4)
    (h : ∀ w', Blk w' b n q t (up u off 64 d) → Upd w b w' → wpList Try.prog ops Q rest (a.put o.dst undef) w') : wpList Try.prog ops Q (o :: rest) a w := by
  refine wpList_step (fun K hK => ?_)
  rw [if_pos hw]
  exact wp_store_mid 25 x y ho b off (arr 64 1 d) hx hy (there_blk hb _ (by rw [arr_size, arr_size]; exact hs)) (by rw [arr_size]; exact info25) (arr_one _ _ _) (hK _ _ (h _ (hb.setCells off 64 hs hp) (Upd.setCells b _ _ _)))
theorem st_alloc25 (hw : Region.wanted o (yielded ops a.tmps) = true) (ho : o.op = .alloc 25)
    (h : wpList Try.prog ops Q rest (a.put o.dst (.pointer (some ⟨w.heap.size, 0, none⟩))) (w.alloc (.cells (arr 64 1 az) 25))) : wpList Try.prog ops Q (o :: rest) a w :=
  st_val hw (by unfold execOp; simp only [ho, Instr.alloc, Sem.run_bind, zero25, Result.andThen_ok]; simp [go_sem, Value.cells]) h
theorem st_load24 {b n off q : Nat} {t : TypeId} {u : Ar} {x : Operand} (hw : Region.wanted o (yielded ops a.tmps) = true) (ho : o.op = .load 24 x) (hx : a.eval x = .pointer (some ⟨b, off, none⟩)) (hb : Blk w b n q t u) (hs : off + 32 ≤ n) (hp : 1 = (q + off) % 4)
    (h : wpList Try.prog ops Q rest (a.put o.dst (.agg (arr 32 1 (sh u off)))) w) : wpList Try.prog ops Q (o :: rest) a w :=
  wpList_step (fun K hK => by rw [if_pos hw]; exact wp_load_mid 24 x ho b off hx (arr 32 1 (sh u off)).toList _ (hb.range off 32 hs hp) Try.underlying24 rfl (by rw [Array.length_toList, arr_size]; exact info24) (hK _ _ h))
theorem st_store24 {b n off q : Nat} {t : TypeId} {u d : Ar} {x y : Operand} (hw : Region.wanted o (yielded ops a.tmps) = true) (ho : o.op = .store 24 x y) (hx : a.eval x = .pointer (some ⟨b, off, none⟩)) (hy : a.eval y = .agg (arr 32 1 d)) (hb : Blk w b n q t u) (hs : off + 32 ≤ n) (hp : 1 = (q + off) % 4)
    (h : ∀ w', Blk w' b n q t (up u off 32 d) → Upd w b w' → wpList Try.prog ops Q rest (a.put o.dst undef) w') : wpList Try.prog ops Q (o :: rest) a w := by
  refine wpList_step (fun K hK => ?_)
  rw [if_pos hw]
  exact wp_store_mid 24 x y ho b off (arr 32 1 d) hx hy (there_blk hb _ (by rw [arr_size, arr_size]; exact hs)) (by rw [arr_size]; exact info24) (arr_one _ _ _) (hK _ _ (h _ (hb.setCells off 32 hs hp) (Upd.setCells b _ _ _)))
theorem st_alloc24 (hw : Region.wanted o (yielded ops a.tmps) = true) (ho : o.op = .alloc 24)
    (h : wpList Try.prog ops Q rest (a.put o.dst (.pointer (some ⟨w.heap.size, 0, none⟩))) (w.alloc (.cells (arr 32 1 az) 24))) : wpList Try.prog ops Q (o :: rest) a w :=
  st_val hw (by unfold execOp; simp only [ho, Instr.alloc, Sem.run_bind, zero24, Result.andThen_ok]; simp [go_sem, Value.cells]) h
theorem st_load23 {b n off q : Nat} {t : TypeId} {u : Ar} {x : Operand} (hw : Region.wanted o (yielded ops a.tmps) = true) (ho : o.op = .load 23 x) (hx : a.eval x = .pointer (some ⟨b, off, none⟩)) (hb : Blk w b n q t u) (hs : off + 4 ≤ n) (hp : 1 = (q + off) % 4)
    (h : wpList Try.prog ops Q rest (a.put o.dst (.agg (arr 4 1 (sh u off)))) w) : wpList Try.prog ops Q (o :: rest) a w :=
  wpList_step (fun K hK => by rw [if_pos hw]; exact wp_load_mid 23 x ho b off hx (arr 4 1 (sh u off)).toList _ (hb.range off 4 hs hp) Try.underlying23 rfl (by rw [Array.length_toList, arr_size]; exact info23) (hK _ _ h))
theorem st_store23 {b n off q : Nat} {t : TypeId} {u d : Ar} {x y : Operand} (hw : Region.wanted o (yielded ops a.tmps) = true) (ho : o.op = .store 23 x y) (hx : a.eval x = .pointer (some ⟨b, off, none⟩)) (hy : a.eval y = .agg (arr 4 1 d)) (hb : Blk w b n q t u) (hs : off + 4 ≤ n) (hp : 1 = (q + off) % 4)
    (h : ∀ w', Blk w' b n q t (up u off 4 d) → Upd w b w' → wpList Try.prog ops Q rest (a.put o.dst undef) w') : wpList Try.prog ops Q (o :: rest) a w := by
  refine wpList_step (fun K hK => ?_)
  rw [if_pos hw]
  exact wp_store_mid 23 x y ho b off (arr 4 1 d) hx hy (there_blk hb _ (by rw [arr_size, arr_size]; exact hs)) (by rw [arr_size]; exact info23) (arr_one _ _ _) (hK _ _ (h _ (hb.setCells off 4 hs hp) (Upd.setCells b _ _ _)))
theorem st_alloc23 (hw : Region.wanted o (yielded ops a.tmps) = true) (ho : o.op = .alloc 23)
    (h : wpList Try.prog ops Q rest (a.put o.dst (.pointer (some ⟨w.heap.size, 0, none⟩))) (w.alloc (.cells (arr 4 1 az) 23))) : wpList Try.prog ops Q (o :: rest) a w :=
  st_val hw (by unfold execOp; simp only [ho, Instr.alloc, Sem.run_bind, zero23, Result.andThen_ok]; simp [go_sem, Value.cells]) h
theorem Blk.res {b : Nat} {t : TypeId} {u : Ar} (h : Blk w b 67 0 t u) {fn : Func} {p : Tmp} (hf : fn.results = #[.cell p 27]) (tmps : Array Value) (hp : tmps.getD p undef = .pointer (some ⟨b, 0, none⟩)) : (results fn tmps).run Try.prog w = .ok (.agg (arr 67 0 u)) w :=
  results_cell_row hf tmps w b t (arr 67 0 u) (0, 0) _ hp h Try.underlying27 rfl (by rw [arr_size]; exact info27)
theorem Blk.loadv {b : Nat} {t : TypeId} {u : Ar} (h : Blk w b 67 0 t u) : (loadVar 27 ⟨b, 0, none⟩).run Try.prog w = .ok (.agg (arr 67 0 u)) w := by
  have e := run_loadVar_mid w b 0 27 (arr 67 0 (sh u 0)).toList _ (h.range 0 67 (by omega) (by omega)) Try.underlying27 rfl (by rw [Array.length_toList, arr_size]; exact info27)
  rw [sh_zero] at e; exact e
theorem Blk.res2 {b : Nat} {t : TypeId} {u : Ar} {v : Value} (h : Blk w b 67 0 t u) {fn : Func} {p q : Tmp} (hf : fn.results = #[.cell p 27, .tmp q]) (tmps : Array Value) (hp : tmps.getD p undef = .pointer (some ⟨b, 0, none⟩)) (hq : tmps.getD q undef = v) : (results fn tmps).run Try.prog w = .ok (.tuple #[.agg (arr 67 0 u), v]) w := by
  rw [results_cell_tmp hf, hp, hq]
  simp only [asAddr, Sem.run_pure, Result.andThen_ok, h.loadv]
theorem st_build27 (hw : Region.wanted o (yielded ops a.tmps) = true) (ho : o.op = .build 27 #[])
    (h : wpList Try.prog ops Q rest (a.put o.dst (.agg (arr 67 0 az))) w) : wpList Try.prog ops Q (o :: rest) a w :=
  st_val hw (by unfold execOp; simp only [ho, Array.map_empty, Sem.run_bind, build27, Result.andThen_ok, Sem.run_pure]) h
theorem st_setF {b n p j : Nat} {t : TypeId} {v : Int} {u : Ar} {x y : Operand} (hw : Region.wanted o (yielded ops a.tmps) = true) (ho : o.op = .store 3 x y) (hx : a.eval x = .pointer (some ⟨b, j, none⟩)) (hy : a.eval y = .int .i64 v) (hb : Blk w b n p t u) (hj : j < n) (hp : (j + p) % 4 ≠ 0)
    (h : ∀ w', Blk w' b n p t (sf u j v) → Upd w b w' → wpList Try.prog ops Q rest (a.put o.dst undef) w') : wpList Try.prog ops Q (o :: rest) a w := by
  refine wpList_step (fun K hK => ?_)
  rw [if_pos hw]
  have hcell := hb.int j hj hp
  have hfr := frozen_of_row _ _ j _ _ hb
  have := h _ (hb.setF j v hj hp) (Upd.setCell _ _ _ _)
  unfold Oper.wp execOp
  simp only [ho, hx, hy]
  simp [go_sem, hcell, hfr]
  exact hK _ _ this
theorem st_setX {b n p j : Nat} {t : TypeId} {v : Bool} {u : Ar} {x y : Operand} (hw : Region.wanted o (yielded ops a.tmps) = true) (ho : o.op = .store 4 x y) (hx : a.eval x = .pointer (some ⟨b, j, none⟩)) (hy : a.eval y = .bool v) (hb : Blk w b n p t u) (hj : j < n) (hp : (j + p) % 4 = 0)
    (h : ∀ w', Blk w' b n p t (sx u j v) → Upd w b w' → wpList Try.prog ops Q rest (a.put o.dst undef) w') : wpList Try.prog ops Q (o :: rest) a w := by
  refine wpList_step (fun K hK => ?_)
  rw [if_pos hw]
  have hcell := hb.bool j hj hp
  have hfr := frozen_of_row _ _ j _ _ hb
  have := h _ (hb.setX j v hj hp) (Upd.setCell _ _ _ _)
  unfold Oper.wp execOp
  simp only [ho, hx, hy]
  simp [go_sem, hcell, hfr]
  exact hK _ _ this
end
end Go.Proofs.Ytmlhdepemeodkaa.A
