/- Of the proofs of the laws of emulatorlaw26: TermOk. Conditions: those of each theorem. -/
import Derived.Test.YtpinoobgnnlccaaKAx1
import Derived.Test.YtpinoobgnnlccaaKAx0
/- What the plain functions term and expression give: valid values, places that go forward. No condition. -/
namespace Go.Proofs.Ytpinoobgnnlccaa.A
open Go Go.RowKit Go.Proofs.YtpinoobgnnlccaaW.PrintWords
set_option linter.unusedSimpArgs false
set_option linter.unusedVariables false
section
variable {L : List S38} {S : List S44} {h : VV}
def TOK (L : List S38) (tm : Nat → RR) : Prop := ∀ i, i ≤ L.length → (tm i).2.2 = 0 → vS (tm i).1 = true ∧ i < (tm i).2.1 ∧ (tm i).2.1 ≤ L.length
theorem named_valid {s : ByteArray} (hs : nameS s = true) : vS (namedS S s) = true := by
  unfold namedS
  split
  · rename_i x _
    by_cases c : 0 ≤ x.f1 ∧ x.f1 ≤ 3
    · rw [if_pos c]
      exact v_mk c.1 (by omega) (wrp_lo _) (wrp_hi _) (by rw [if_neg (by omega)]; unfold sIs; rw [ByteArray.toList_eq]; rfl)
    · rw [if_neg c]; exact v_mk (by omega) (by omega) (by omega) (by omega) (by rw [if_pos rfl]; exact hs)
  · exact v_mk (by omega) (by omega) (by omega) (by omega) (by rw [if_pos rfl]; exact hs)
theorem atomT_valid (hh : vS h = true) {t : S38} (h0 : (atomT S h t).2 = 0) : vS (atomT S h t).1 = true := by
  unfold atomT at h0 ⊢
  by_cases c1 : t.f0 = 2
  · simp only [if_pos c1]; exact v_zero _
  · by_cases c2 : t.f0 = 1 ∧ sIs t.f1 [46] = true
    · simp only [if_neg c1, if_pos c2]; exact hh
    · by_cases c3 : t.f0 = 1 ∧ nameS t.f1 = true
      · simp only [if_neg c1, if_neg c2, if_pos c3]; exact named_valid c3.2
      · simp only [if_neg c1, if_neg c2, if_neg c3, ve] at h0; cases h0
theorem atom_ok (hh : vS h = true) : TOK L (atomS L S h) := by
  intro i hi h0
  unfold atomS at h0 ⊢
  by_cases c : L.length ≤ i
  · rw [if_pos c] at h0; cases h0
  · rw [if_neg c] at h0 ⊢
    by_cases c2 : (atomT S h (rd_T38 L i)).2 = 0
    · rw [if_pos c2]
      exact ⟨atomT_valid hh c2, by show i < i + 1; omega, by show i + 1 ≤ L.length; omega⟩
    · rw [if_neg c2] at h0; cases h0
theorem loop_ok {tm : Nat → RR} (ht : TOK L tm) : ∀ n v i, vS v = true → i ≤ L.length → (loopS L tm n v i).2.2 = 0 → vS (loopS L tm n v i).1 = true ∧ i ≤ (loopS L tm n v i).2.1 ∧ (loopS L tm n v i).2.1 ≤ L.length := by
  intro n
  induction n with
  | zero => intro v i hv hi _; exact ⟨hv, Nat.le_refl _, hi⟩
  | succ n ih =>
    intro v i hv hi h0
    unfold loopS at h0 ⊢
    by_cases c : isOp (symS L i) = true
    · rw [if_pos c] at h0 ⊢
      obtain ⟨o1, _, _⟩ := op_at c
      by_cases c2 : (tm (i + 1)).2.2 = 0
      · rw [if_pos c2] at h0 ⊢
        obtain ⟨t1, t2, t3⟩ := ht (i + 1) (by omega) c2
        by_cases c3 : (opS (symS L i) v (tm (i + 1)).1).2 = 0
        · rw [if_pos c3] at h0 ⊢
          obtain ⟨a, b, d⟩ := ih _ _ (op_valid hv t1 c3) t3 h0
          exact ⟨a, by omega, d⟩
        · rw [if_neg c3] at h0; exact absurd h0 c3
      · rw [if_neg c2] at h0; exact absurd h0 c2
    · rw [if_neg c]; exact ⟨hv, Nat.le_refl _, hi⟩
theorem expr_ok {tm : Nat → RR} (ht : TOK L tm) : TOK L (exprS L tm) := by
  intro i hi h0
  unfold exprS at h0 ⊢
  by_cases c : (tm i).2.2 = 0
  · rw [if_pos c] at h0 ⊢
    obtain ⟨t1, t2, t3⟩ := ht i hi c
    obtain ⟨a, b, d⟩ := loop_ok ht _ _ _ t1 t3 h0
    exact ⟨a, by omega, d⟩
  · rw [if_neg c] at h0; exact absurd h0 c
theorem v0_valid : vS v0 = true := v_mk (by omega) (by omega) (by omega) (by omega) (by rw [if_neg (by omega)]; unfold sIs; rw [ByteArray.toList_eq]; rfl)
theorem term_ok (hh : vS h = true) : ∀ d, TOK L (termS L S h d) := by
  intro d
  induction d with
  | zero =>
    intro i hi h0
    unfold termS at h0 ⊢
    by_cases c : sIs (symS L i) [45] = true
    · rw [if_pos c] at h0; cases h0
    · by_cases c2 : sIs (symS L i) [40] = true
      · rw [if_neg c, if_pos c2] at h0; cases h0
      · rw [if_neg c, if_neg c2] at h0 ⊢; exact atom_ok hh i hi h0
  | succ d ih =>
    intro i hi h0
    unfold termS at h0 ⊢
    by_cases c : sIs (symS L i) [45] = true
    · rw [if_pos c] at h0 ⊢
      obtain ⟨s1, _, _⟩ := sym_at (by simp) c
      unfold negS at h0 ⊢
      by_cases c2 : (termS L S h d (i + 1)).2.2 = 0
      · rw [if_pos c2] at h0 ⊢
        obtain ⟨t1, t2, t3⟩ := ih (i + 1) (by omega) c2
        exact ⟨sub_valid v0_valid h0, by show i < (termS L S h d (i + 1)).2.1; omega, t3⟩
      · rw [if_neg c2] at h0; exact absurd h0 c2
    · rw [if_neg c] at h0 ⊢
      by_cases c2 : sIs (symS L i) [40] = true
      · rw [if_pos c2] at h0 ⊢
        obtain ⟨s1, _, _⟩ := sym_at (by simp) c2
        unfold parS at h0 ⊢
        by_cases c3 : (exprS L (termS L S h d) (i + 1)).2.2 = 0
        · rw [if_pos c3] at h0 ⊢
          obtain ⟨t1, t2, t3⟩ := expr_ok ih (i + 1) (by omega) c3
          by_cases c4 : sIs (symS L (exprS L (termS L S h d) (i + 1)).2.1) [41] = true
          · rw [if_pos c4] at h0 ⊢
            obtain ⟨s2, _, _⟩ := sym_at (by simp) c4
            exact ⟨t1, by show i < (exprS L (termS L S h d) (i + 1)).2.1 + 1; omega, by show (exprS L (termS L S h d) (i + 1)).2.1 + 1 ≤ _; omega⟩
          · rw [if_neg c4] at h0; cases h0
        · rw [if_neg c3] at h0; exact absurd h0 c3
      · rw [if_neg c2] at h0 ⊢; exact atom_ok hh i hi h0
end
end Go.Proofs.Ytpinoobgnnlccaa.A
