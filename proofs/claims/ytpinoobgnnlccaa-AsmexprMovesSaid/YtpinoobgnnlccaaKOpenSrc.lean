/- Of the proofs of the laws of emulatorlaw26: OpenSrc. Conditions: those of each theorem. -/
import Derived.Test.YtpinoobgnnlccaaKOpenRows
/- Opening a struct of a slice of structs, a number and a struct of three one-cell fields, passed by value. Whatever the program. -/
namespace Go.Proofs.Ytpinoobgnnlccaa.Open
open Go.ChangeShapes Go.WideShapes Go.Deep
section
variable {H : Type} {enc : TypeId × Value → H} {P : Program} {w : World} {base : Nat} {spare : Nat → Bool} {held : Bool}
theorem open_rows_t {n0 : Nat} {t e : TypeId} {fs : Array Field} {c : Value} {y0 : DataW H × List MemPlace} (ht : P.underlying t = some (.slice e)) (hs : P.underlying e = some (.struct fs)) (hone : oneCellFields P fs = true) (hC : P.cellsOf e = fs.size)
    (hf : DataW.trod enc P w base spare held n0 t [c] = some y0) :
    ∃ (A : Option Addr) (len cap : Nat), c = .slice A len cap ∧ len ≤ cap ∧ cap ≤ maxLen ∧ ∀ i, i < len → ∃ (ad : Addr) (cs : List Value), A = some ad ∧ cs.length = fs.size ∧ (∀ (j : Nat) (u : Value), cs[j]? = some u → w.cell? (ad.add (i * fs.size + j)) = some u) ∧
      ∀ (j : Nat) (f : Field) (c : Value), fs[j]? = some f → cs[j]? = some c → ∃ (n : Nat) (y : DataW H × List MemPlace), DataW.trod enc P w base spare held n f.type [c] = some y := by
  rcases open_slice ht hf with ⟨hcs, _⟩ | ⟨a, len, cap, m, n, D, Pl, hcs, hb, hl, hm, hmm, _, hi⟩
  · obtain rfl : c = .slice none 0 0 := by simpa using hcs
    exact ⟨none, 0, 0, rfl, Nat.le_refl _, by unfold maxLen; omega, fun i hi => absurd hi (by omega)⟩
  · obtain rfl : c = .slice (some a) len cap := by simpa using hcs
    refine ⟨some a, len, cap, rfl, hl, hm, fun i hlt => ?_⟩
    have him : i < m := by rw [hmm]; split <;> omega
    obtain ⟨cs', hc, ht'⟩ := hi i him
    rw [hC] at hc
    obtain ⟨ys, n', _, _, _, hyl, hg⟩ := DataW.trod_struct hs ht'
    obtain ⟨_, hcl, hat⟩ := World.cells?_some hc
    refine ⟨a, cs', rfl, hcl, fun j u hu => ?_, fun j f c hj hcj => ?_⟩
    · have hjl : j < cs'.length := (List.getElem?_eq_some_iff.1 hu).1
      rw [← Go.Deep.add_add, hat j (by omega)]
      exact hu
    · obtain ⟨ho, hk⟩ := hone_of hone j f hj
      have hjl : j < cs'.length := (List.getElem?_eq_some_iff.1 hcj).1
      have h1 := hg j f hj
      have hx : j < ys.length := by rw [hyl]; exact (Array.getElem?_eq_some_iff.1 hj).1
      have h2 : (cs'.drop j).take 1 = [c] := by
        rw [List.drop_eq_getElem_cons hjl]
        simp [(List.getElem?_eq_some_iff.1 hcj).2]
      rw [ho, hk, h2, List.getElem?_eq_getElem hx] at h1
      exact ⟨n', _, h1⟩
theorem open_src {r : Reach} {b0 : Nat} {t : TypeId} {f0 f1 f2 g0 g1 g2 : Field} {v : Value} {d : DataW H} {p : List MemPlace} (hs : P.underlying t = some (.struct #[f0, f1, f2])) (hg : P.underlying f2.type = some (.struct #[g0, g1, g2])) (hC : P.cellsOf t = 5)
    (ho : f0.offset = 0 ∧ f1.offset = 1 ∧ f2.offset = 2) (hk0 : P.cellsOf f0.type = 1) (hk1 : P.cellsOf f1.type = 1) (hk2 : P.cellsOf f2.type = 3) (hone : oneCellFields P #[g0, g1, g2] = true)
    (hv : Value.okWide P w r b0 t v) (h : DataW.Trod enc P w base spare held t v d p) :
    ∃ (c0 c1 c2 c3 c4 : Value) (n m : Nat) (y0 y1 z0 z1 z2 : DataW H × List MemPlace), v = .agg #[c0, c1, c2, c3, c4] ∧ DataW.trod enc P w base spare held n f0.type [c0] = some y0 ∧ DataW.trod enc P w base spare held n f1.type [c1] = some y1 ∧
      DataW.trod enc P w base spare held m g0.type [c2] = some z0 ∧ DataW.trod enc P w base spare held m g1.type [c3] = some z1 ∧ DataW.trod enc P w base spare held m g2.type [c4] = some z2 := by
  obtain ⟨cs, rfl, hsz⟩ := okWide_struct hs hv
  obtain ⟨l⟩ := cs
  obtain ⟨o0, o1, o2⟩ := ho
  match l, hsz.trans hC with
  | [c0, c1, c2, c3, c4], _ =>
    obtain ⟨fuel, hf⟩ := h
    obtain ⟨xs, n, _, hx, _, hlen, hgs⟩ := DataW.trod_struct hs hf
    match xs, hlen with
    | [y0, y1, y2], _ =>
      have e0 := hgs 0 f0 rfl
      have e1 := hgs 1 f1 rfl
      have e2 := hgs 2 f2 rfl
      rw [o0, hk0] at e0
      rw [o1, hk1] at e1
      rw [o2, hk2] at e2
      have e2' : DataW.trod enc P w base spare held n f2.type [c2, c3, c4] = some y2 := by simpa [Value.cells] using e2
      obtain ⟨zs, m, _, _, _, hzl, hgz⟩ := DataW.trod_struct hg e2'
      obtain ⟨p0, q0⟩ := hone_of hone 0 g0 rfl
      obtain ⟨p1, q1⟩ := hone_of hone 1 g1 rfl
      obtain ⟨p2, q2⟩ := hone_of hone 2 g2 rfl
      match zs, hzl with
      | [z0, z1, z2], _ =>
        exact ⟨c0, c1, c2, c3, c4, n, m, y0, y1, z0, z1, z2, rfl, by simpa [Value.cells] using e0, by simpa [Value.cells] using e1, by simpa [Value.cells, p0, q0] using hgz 0 g0 rfl, by simpa [Value.cells, p1, q1] using hgz 1 g1 rfl, by simpa [Value.cells, p2, q2] using hgz 2 g2 rfl⟩
end
end Go.Proofs.Ytpinoobgnnlccaa.Open
