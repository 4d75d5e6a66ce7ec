/- Maps from int that a call makes: what they hold as a list of pairs; lookup, store, delete, len. Conditions: the block holds that list (MapI). -/
import Derived.Test.YtnnknhcdnklalaaF17
import Derived.MapKept
namespace Go.Proofs.Ytnnknhcdnklalaa.A
open Go Go.RowKit
set_option linter.unusedSimpArgs false
set_option linter.unusedVariables false
def getI : List (Int × Value) → Int → Option Value
  | [], _ => none
  | (a, v) :: r, k => if k = a then some v else getI r k
def putI : List (Int × Value) → Int → Value → List (Int × Value)
  | [], k, x => [(k, x)]
  | (a, v) :: r, k, x => if k = a then (a, x) :: r else (a, v) :: putI r k x
def delI : List (Int × Value) → Int → List (Int × Value)
  | [], _ => []
  | (a, v) :: r, k => if k = a then r else (a, v) :: delI r k
theorem getI_putI (k : Int) (x : Value) (j : Int) : ∀ L, getI (putI L k x) j = if j = k then some x else getI L j
  | [] => by simp [putI, getI]
  | (a, v) :: r => by
    unfold putI
    by_cases h : k = a
    · subst h; rw [if_pos rfl]; simp only [getI]; split <;> rfl
    · rw [if_neg h]; simp only [getI, getI_putI k x j r]
      by_cases h2 : j = a
      · subst h2; rw [if_pos rfl, if_neg (fun e => h e.symm), if_pos rfl]
      · rw [if_neg h2, if_neg h2]
def kv (e : MapEntry) : Value × Value := (e.key, e.val)
def enc (x : Int × Value) : Value × Value := (.int .i64 x.1, x.2)
def MapI (w : World) (b : Nat) (L : List (Int × Value)) : Prop := ∃ es clock, w.heap[b]? = some (.map es clock) ∧ es.toList.map kv = L.map enc
theorem find_cases (k : Int) (x : Value) : ∀ (l : List MapEntry) (L : List (Int × Value)) (n : Nat), l.map kv = L.map enc →
    (Instr.findNow (.int .i64) (.int .i64 k) l n = some none ∧ getI L k = none ∧ delI L k = L ∧ putI L k x = L ++ [(k, x)]) ∨
    ∃ i v, Instr.findNow (.int .i64) (.int .i64 k) l n = some (some (n + i, v)) ∧ getI L k = some v ∧ (∃ e, l[i]? = some e ∧ e.key = .int .i64 k) ∧
      (l.modify i fun e => { e with key := .int .i64 k, val := x }).map kv = (putI L k x).map enc ∧ (l.eraseIdx i).map kv = (delI L k).map enc ∧ (putI L k x).length = L.length ∧ (delI L k).length + 1 = L.length
  | [], [], n, _ => Or.inl ⟨rfl, rfl, rfl, rfl⟩
  | [], _ :: _, n, h => by simp at h
  | _ :: _, [], n, h => by simp at h
  | e :: r, (a, v) :: R, n, h => by
    simp only [List.map_cons, List.cons.injEq] at h
    obtain ⟨h1, h2⟩ := h
    have hk : e.key = .int .i64 a := congrArg Prod.fst h1
    have hv : e.val = v := congrArg Prod.snd h1
    by_cases e1 : k = a
    · subst e1
      refine Or.inr ⟨0, v, ?_, ?_, ⟨e, rfl, hk⟩, ?_, ?_, ?_, ?_⟩
      · simp [Instr.findNow, hk, Instr.sameNow, hv]
      · simp [getI]
      · simp [putI, kv, enc, h2]
      · simp [delI, h2]
      · simp [putI]
      · simp [delI]
    · have hne : (k == a) = false := by simpa using e1
      rcases find_cases k x r R (n + 1) h2 with ⟨g1, g2, g3, g4⟩ | ⟨i, u, g1, g2, ⟨e', g3, g4⟩, g5, g6, g7, g8⟩
      · refine Or.inl ⟨?_, ?_, ?_, ?_⟩
        · simp [Instr.findNow, hk, Instr.sameNow, hne, g1]
        · simp [getI, e1, g2]
        · simp [delI, e1, g3]
        · simp [putI, e1, g4]
      · refine Or.inr ⟨i + 1, u, ?_, ?_, ⟨e', by simpa using g3, g4⟩, ?_, ?_, ?_, ?_⟩
        · simp [Instr.findNow, hk, Instr.sameNow, hne, g1]; omega
        · simp [getI, e1, g2]
        · simp [putI, e1, g5, h1]
        · simp [delI, e1, g6, h1]
        · simp [putI, e1, g7]
        · simp [delI, e1]; omega
theorem MapI.lt {w : World} {b : Nat} {L : List (Int × Value)} (h : MapI w b L) : b < w.heap.size := by obtain ⟨es, c, hb, _⟩ := h; exact (Array.getElem?_eq_some_iff.1 hb).1
theorem MapI.below {w w' : World} {b B : Nat} {L : List (Int × Value)} (h : MapI w b L) (hb : Below B w w') (hlt : b < B) : MapI w' b L := by
  obtain ⟨es, c, h1, h2⟩ := h; exact ⟨es, c, by rw [hb.block b hlt]; exact h1, h2⟩
theorem MapI.upd {w w' : World} {b c : Nat} {L : List (Int × Value)} (h : MapI w b L) (hu : Upd w c w') (hne : b ≠ c) : MapI w' b L := by
  obtain ⟨es, k, h1, h2⟩ := h; exact ⟨es, k, by rw [hu.block b hne]; exact h1, h2⟩
theorem MapI.alloc {w : World} {b : Nat} {L : List (Int × Value)} (h : MapI w b L) (o : Obj) : MapI (w.alloc o) b L := by
  have hl := h.lt; obtain ⟨es, c, h1, h2⟩ := h
  exact ⟨es, c, by show (w.heap.push o)[b]? = _; rw [Array.getElem?_push, if_neg (by omega)]; exact h1, h2⟩
theorem MapI.new (w : World) : MapI (w.alloc (.map #[] 0)) w.heap.size [] := ⟨#[], 0, heap_alloc_new w _, rfl⟩
theorem upd_set {w : World} {b : Nat} (o : Obj) : Upd w b { w with heap := w.heap.setIfInBounds b o } :=
  ⟨rfl, rfl, rfl, by simp, fun k hk => by simp [Ne.symm hk]⟩
section
variable {P : Program} {t kt et : TypeId}
theorem run_look (hm : P.underlying t = some (.map kt et)) (hk : P.underlying kt = some (.int .i64)) {w : World} {b : Nat} {L : List (Int × Value)} (h : MapI w b L) (k : Int) {z : Value} (hz : (zeroValue et).run P w = .ok z w) (ok : Bool) :
    (Instr.lookup t (.map (some b)) (.int .i64 k) ok).run P w = .ok (if ok then .tuple #[(getI L k).getD z, .bool (getI L k).isSome] else (getI L k).getD z) w := by
  obtain ⟨es, c, hb, hL⟩ := h
  have hck := Go.MapKept.run_checkKey (P := P) (w := w) (k := .int .i64 k) hk (by simp [Go.MapKept.IsKey]) es.isEmpty 9999
  unfold Instr.lookup
  simp only [Sem.run_bind, run_underlying hm, Result.andThen_ok, Go.MapKept.run_getObj_map hb, Sem.run_pure, hck]
  rcases find_cases k undef es.toList L 0 hL with ⟨g1, g2, _⟩ | ⟨i, v, g1, g2, _⟩
  · simp only [Go.MapKept.run_findKey hk g1, Result.andThen_ok, Sem.run_bind, hz, Sem.run_pure, g2]; cases ok <;> simp
  · simp only [Go.MapKept.run_findKey hk g1, Result.andThen_ok, Sem.run_bind, Sem.run_pure, g2]; cases ok <;> simp
theorem run_put (hm : P.underlying t = some (.map kt et)) (hk : P.underlying kt = some (.int .i64)) {w : World} {b : Nat} {L : List (Int × Value)} (h : MapI w b L) (k : Int) (x : Value) :
    ∃ w', (Instr.mapUpdate t (.map (some b)) (.int .i64 k) x).run P w = .ok () w' ∧ MapI w' b (putI L k x) ∧ Upd w b w' := by
  obtain ⟨es, c, hb, hL⟩ := h
  have hck := Go.MapKept.run_checkKey (P := P) (w := w) (k := .int .i64 k) hk (by simp [Go.MapKept.IsKey]) false 9999
  have hlt : b < w.heap.size := (Array.getElem?_eq_some_iff.1 hb).1
  rcases find_cases k x es.toList L 0 hL with ⟨g1, g2, g3, g4⟩ | ⟨i, v, g1, g2, ⟨e, g3, g4⟩, g5, g6, _⟩
  · refine ⟨_, ?_, ⟨es.push { key := .int .i64 k, val := x, born := c }, c + 1, ?_, ?_⟩, upd_set (.map (es.push { key := .int .i64 k, val := x, born := c }) (c + 1))⟩
    · unfold Instr.mapUpdate
      simp only [Sem.run_bind, run_underlying hm, Result.andThen_ok, Go.MapKept.run_getObj_map hb, hck, Go.MapKept.run_findKey hk g1, Go.MapKept.run_setObj_map _ hb]
    · simp [hlt]
    · rw [g4]; simp [hL, kv, enc]
  · refine ⟨_, ?_, ⟨es.modify i fun e => { e with key := .int .i64 k, val := x }, c, ?_, ?_⟩, upd_set (.map (es.modify i fun e => { e with key := .int .i64 k, val := x }) c)⟩
    · have hi : (0 + i) = i := Nat.zero_add i
      have hg : es[i]? = some e := by simpa using g3
      unfold Instr.mapUpdate
      simp only [Sem.run_bind, run_underlying hm, Result.andThen_ok, Go.MapKept.run_getObj_map hb, hck, Go.MapKept.run_findKey hk g1, hi, hg, Option.map_some, Option.getD_some, g4]
      simp [Instr.keyThatStays, Instr.sameBits, Go.MapKept.run_setObj_map _ hb, Sem.run_bind]
    · simp [hlt]
    · rw [← g5]; simp
theorem run_del (hm : P.underlying t = some (.map kt et)) (hk : P.underlying kt = some (.int .i64)) {w : World} {b : Nat} {L : List (Int × Value)} (h : MapI w b L) (k : Int) (ty : TypeId) :
    ∃ w', (Builtin.delete_ #[t, kt] ty #[.map (some b), .int .i64 k]).run P w = .ok (.tuple #[]) w' ∧ MapI w' b (delI L k) ∧ Upd w b w' := by
  obtain ⟨es, c, hb, hL⟩ := h
  have hck := Go.MapKept.run_checkKey (P := P) (w := w) (k := .int .i64 k) hk (by simp [Go.MapKept.IsKey]) es.isEmpty 9999
  have hlt : b < w.heap.size := (Array.getElem?_eq_some_iff.1 hb).1
  rcases find_cases k undef es.toList L 0 hL with ⟨g1, g2, g3, g4⟩ | ⟨i, v, g1, g2, ⟨e, g3, g4⟩, g5, g6, _⟩
  · refine ⟨_, ?_, ⟨es, c, ?_, ?_⟩, upd_set (.map es c)⟩
    · unfold Builtin.delete_
      simp [Sem.run_bind, run_underlying hm, Result.andThen_ok, Go.MapKept.run_getObj_map hb, hck, Go.MapKept.run_findKey hk g1, Go.MapKept.run_setObj_map _ hb]
    · simp [hlt]
    · rw [g3]; exact hL
  · refine ⟨_, ?_, ⟨es.eraseIdxIfInBounds i, c, ?_, ?_⟩, upd_set (.map (es.eraseIdxIfInBounds i) c)⟩
    · have hi : (0 + i) = i := Nat.zero_add i
      unfold Builtin.delete_
      simp [Sem.run_bind, run_underlying hm, Result.andThen_ok, Go.MapKept.run_getObj_map hb, hck, Go.MapKept.run_findKey hk g1, Go.MapKept.run_setObj_map _ hb, hi]
    · simp [hlt]
    · rw [← g6]; congr 1
      have hil : i < es.size := by have := (List.getElem?_eq_some_iff.1 g3).1; simpa using this
      simp [Array.eraseIdxIfInBounds, hil]
theorem run_mlen (hm : P.underlying t = some (.map kt et)) {w : World} {b : Nat} {L : List (Int × Value)} (h : MapI w b L) (ty : TypeId) : (Builtin.len_ #[t] ty #[.map (some b)]).run P w = .ok (.int .i64 L.length) w := by
  obtain ⟨es, c, hb, hL⟩ := h
  have hl : es.size = L.length := by have := congrArg List.length hL; simpa using this
  simp [Builtin.len_, Sem.run_bind, run_underlying hm, Result.andThen_ok, Go.MapKept.run_getObj_map hb, goInt, hl]
end
theorem zero3 (w : World) : (zeroValue 3).run Try.prog w = .ok (.int .i64 0) w := by kernel_rfl
theorem zero4 (w : World) : (zeroValue 4).run Try.prog w = .ok (.bool false) w := by kernel_rfl
section
variable {ops : Array Oper} {o : Oper} {rest : List Oper} {a : Act} {Q : Exit → Act → World → Prop} {w : World}
theorem st_makeMap {t : TypeId} (hw : Region.wanted o (yielded ops a.tmps) = true) (ho : o.op = .makeMap t none)
    (h : wpList Try.prog ops Q rest (a.put o.dst (.map (some w.heap.size))) (w.alloc (.map #[] 0))) : wpList Try.prog ops Q (o :: rest) a w :=
  st_val hw (by unfold execOp; simp only [ho, Option.map_none, Sem.run_bind]; rfl) h
theorem st_look44 {b : Nat} {k : Int} {L : List (Int × Value)} {x y : Operand} (hw : Region.wanted o (yielded ops a.tmps) = true) (ho : o.op = .lookup 44 x y false) (hx : a.eval x = .map (some b)) (hy : a.eval y = .int .i64 k) (hb : MapI w b L)
    (h : wpList Try.prog ops Q rest (a.put o.dst ((getI L k).getD (.bool false))) w) : wpList Try.prog ops Q (o :: rest) a w :=
  st_val hw (by
    unfold execOp
    simp only [ho, hx, hy, Sem.run_bind, run_look Try.underlying44 Try.underlying3 hb k (zero4 w) false, Result.andThen_ok, Sem.run_pure]
    rfl) h
theorem st_look40 {b : Nat} {k : Int} {L : List (Int × Value)} {x y : Operand} (hw : Region.wanted o (yielded ops a.tmps) = true) (ho : o.op = .lookup 40 x y true) (hx : a.eval x = .map (some b)) (hy : a.eval y = .int .i64 k) (hb : MapI w b L)
    (h : wpList Try.prog ops Q rest (a.put o.dst (.tuple #[(getI L k).getD (.int .i64 0), .bool (getI L k).isSome])) w) : wpList Try.prog ops Q (o :: rest) a w :=
  st_val hw (by
    unfold execOp
    simp only [ho, hx, hy, Sem.run_bind, run_look Try.underlying40 Try.underlying3 hb k (zero3 w) true, Result.andThen_ok, Sem.run_pure]
    rfl) h
theorem st_put {t et : TypeId} {b : Nat} {k : Int} {v : Value} {L : List (Int × Value)} {x y z : Operand} (hw : Region.wanted o (yielded ops a.tmps) = true) (ho : o.op = .mapUpdate t x y z) (ht : Try.prog.underlying t = some (.map 3 et)) (hx : a.eval x = .map (some b)) (hy : a.eval y = .int .i64 k) (hz : a.eval z = v) (hb : MapI w b L)
    (h : ∀ w', MapI w' b (putI L k v) → Upd w b w' → wpList Try.prog ops Q rest (a.put o.dst undef) w') : wpList Try.prog ops Q (o :: rest) a w := by
  obtain ⟨w', h1, h2, h3⟩ := run_put ht Try.underlying3 hb k v
  refine wpList_step (fun K hK => ?_)
  rw [if_pos hw]
  unfold Oper.wp execOp
  simp only [ho, hx, hy, hz, Sem.run_bind, h1, Result.andThen_ok, Sem.run_pure, Oper.upon]
  exact hK _ _ (h w' h2 h3)
end
end Go.Proofs.Ytnnknhcdnklalaa.A
