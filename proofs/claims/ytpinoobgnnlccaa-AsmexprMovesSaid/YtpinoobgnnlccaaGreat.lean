/- Of the proofs of the laws of emulatorlaw26: Great. Conditions: those of each theorem. -/
import Derived.Test.YtpinoobgnnlccaaKAx15
/- Great and GreatSymbols: what they say of lengths. -/
namespace Go.Proofs.Ytpinoobgnnlccaa.A
open Go Go.RowKit Go.Proofs.YtpinoobgnnlccaaW.PrintWords
set_option linter.unusedSimpArgs false
set_option linter.unusedVariables false
theorem great_s_l (S : List S44) : ∀ (n k i : Nat), i ≤ S.length → i + n = 101 → 2 * n + 3 ≤ k → ∃ g, emulatorref26_GreatSymbols.l0 k S (i : Int) = some g ∧ (g = false → S.length ≤ 100 ∧ ∀ x ∈ S.drop i, x.f0.size ≤ 100) := by
  intro n
  induction n with
  | zero =>
    intro k i hi hn hk
    obtain ⟨k, rfl⟩ : ∃ m, k = m + 1 + 1 := ⟨k - 2, by omega⟩
    have e : emulatorref26_GreatSymbols.l0 (k + 1 + 1) S (i : Int) = some (decide ((S.length : Int) > 100)) := by
      rw [emulatorref26_GreatSymbols.l0]
      by_cases c : (i : Int) < (S.length : Int)
      · rw [if_pos c, show decide ((i : Int) < 101) = false from by rw [decide_eq_false_iff_not]; omega, emulatorref26_GreatSymbols.j1, if_neg (by decide)]
      · rw [if_neg c, emulatorref26_GreatSymbols.j1, if_neg (by decide)]
    refine ⟨_, e, fun h => ?_⟩
    rw [decide_eq_false_iff_not] at h
    omega
  | succ n ih =>
    intro k i hi hn hk
    obtain ⟨k, rfl⟩ : ∃ m, k = m + 1 + 1 := ⟨k - 2, by omega⟩
    by_cases c : i < S.length
    · have hr : rd_T44 S (i : Int) = S[i] := by unfold rd_T44; simp [c]
      have hd : S.drop i = S[i] :: S.drop (i + 1) := List.drop_eq_getElem_cons c
      have hw : wrap64 ((i : Int) + 1) = ((i + 1 : Nat) : Int) := by unfold wrap64; omega
      have e : emulatorref26_GreatSymbols.l0 (k + 1 + 1) S (i : Int) = if (((S[i]).f0.size : Nat) : Int) > 100 then some true else emulatorref26_GreatSymbols.l0 k S ((i + 1 : Nat) : Int) := by
        rw [emulatorref26_GreatSymbols.l0, if_pos (by omega), show decide ((i : Int) < 101) = true from by rw [decide_eq_true_eq]; omega, emulatorref26_GreatSymbols.j1, if_pos rfl, if_pos (by omega), if_pos (by omega), hr, hw]
      by_cases c2 : (((S[i]).f0.size : Nat) : Int) > 100
      · exact ⟨true, by rw [e, if_pos c2], fun h => by cases h⟩
      · obtain ⟨g, h1, h2⟩ := ih k (i + 1) (by omega) (by omega) (by omega)
        refine ⟨g, by rw [e, if_neg c2, h1], fun h => ⟨(h2 h).1, fun x hx => ?_⟩⟩
        rw [hd] at hx
        rcases List.mem_cons.mp hx with rfl | hx
        · omega
        · exact (h2 h).2 x hx
    · have e : emulatorref26_GreatSymbols.l0 (k + 1 + 1) S (i : Int) = some (decide ((S.length : Int) > 100)) := by
        rw [emulatorref26_GreatSymbols.l0, if_neg (by omega), emulatorref26_GreatSymbols.j1, if_neg (by decide)]
      refine ⟨_, e, fun h => ⟨by rw [decide_eq_false_iff_not] at h; omega, fun x hx => ?_⟩⟩
      rw [List.drop_eq_nil_of_le (by omega)] at hx; cases hx
theorem great_s (S : List S44) (k : Nat) : ∃ g, emulatorref26_GreatSymbols.f (k + 300) S = some g ∧ (g = false → S.length ≤ 100 ∧ ∀ x ∈ S, x.f0.size ≤ 100) := by
  have := great_s_l S 101 (k + 300) 0 (by omega) (by omega) (by omega)
  unfold emulatorref26_GreatSymbols.f
  simpa using this
theorem great_t_l (S : List S38) : ∀ (n k i : Nat), i ≤ S.length → i + n = 101 → 2 * n + 3 ≤ k → ∃ g, emulatorref26_Great.l0 k S (i : Int) = some g ∧ (g = false → S.length ≤ 100 ∧ ∀ x ∈ S.drop i, x.f1.size ≤ 100) := by
  intro n
  induction n with
  | zero =>
    intro k i hi hn hk
    obtain ⟨k, rfl⟩ : ∃ m, k = m + 1 + 1 := ⟨k - 2, by omega⟩
    have e : emulatorref26_Great.l0 (k + 1 + 1) S (i : Int) = some (decide ((S.length : Int) > 100)) := by
      rw [emulatorref26_Great.l0]
      by_cases c : (i : Int) < (S.length : Int)
      · rw [if_pos c, show decide ((i : Int) < 101) = false from by rw [decide_eq_false_iff_not]; omega, emulatorref26_Great.j1, if_neg (by decide)]
      · rw [if_neg c, emulatorref26_Great.j1, if_neg (by decide)]
    refine ⟨_, e, fun h => ?_⟩
    rw [decide_eq_false_iff_not] at h
    omega
  | succ n ih =>
    intro k i hi hn hk
    obtain ⟨k, rfl⟩ : ∃ m, k = m + 1 + 1 := ⟨k - 2, by omega⟩
    by_cases c : i < S.length
    · have hr : rd_T38 S (i : Int) = S[i] := by unfold rd_T38; simp [c]
      have hd : S.drop i = S[i] :: S.drop (i + 1) := List.drop_eq_getElem_cons c
      have hw : wrap64 ((i : Int) + 1) = ((i + 1 : Nat) : Int) := by unfold wrap64; omega
      have e : emulatorref26_Great.l0 (k + 1 + 1) S (i : Int) = if (((S[i]).f1.size : Nat) : Int) > 100 then some true else emulatorref26_Great.l0 k S ((i + 1 : Nat) : Int) := by
        rw [emulatorref26_Great.l0, if_pos (by omega), show decide ((i : Int) < 101) = true from by rw [decide_eq_true_eq]; omega, emulatorref26_Great.j1, if_pos rfl, if_pos (by omega), if_pos (by omega), hr, hw]
      by_cases c2 : (((S[i]).f1.size : Nat) : Int) > 100
      · exact ⟨true, by rw [e, if_pos c2], fun h => by cases h⟩
      · obtain ⟨g, h1, h2⟩ := ih k (i + 1) (by omega) (by omega) (by omega)
        refine ⟨g, by rw [e, if_neg c2, h1], fun h => ⟨(h2 h).1, fun x hx => ?_⟩⟩
        rw [hd] at hx
        rcases List.mem_cons.mp hx with rfl | hx
        · omega
        · exact (h2 h).2 x hx
    · have e : emulatorref26_Great.l0 (k + 1 + 1) S (i : Int) = some (decide ((S.length : Int) > 100)) := by
        rw [emulatorref26_Great.l0, if_neg (by omega), emulatorref26_Great.j1, if_neg (by decide)]
      refine ⟨_, e, fun h => ⟨by rw [decide_eq_false_iff_not] at h; omega, fun x hx => ?_⟩⟩
      rw [List.drop_eq_nil_of_le (by omega)] at hx; cases hx
theorem great_t (S : List S38) (k : Nat) : ∃ g, emulatorref26_Great.f (k + 300) S = some g ∧ (g = false → S.length ≤ 100 ∧ ∀ x ∈ S, x.f1.size ≤ 100) := by
  have := great_t_l S 101 (k + 300) 0 (by omega) (by omega) (by omega)
  unfold emulatorref26_Great.f
  simpa using this
end Go.Proofs.Ytpinoobgnnlccaa.A
