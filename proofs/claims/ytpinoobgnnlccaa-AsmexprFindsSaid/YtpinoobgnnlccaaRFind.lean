/- Of the proofs of the laws of emulatorlaw26: RFind. Conditions: those of each theorem. -/
import Derived.Test.YtpinoobgnnlccaaKAx18
import Derived.Test.YtpinoobgnnlccaaKAx0
/- The reference's Find. -/
namespace Go.Proofs.Ytpinoobgnnlccaa.A
open Go Go.RowKit Go.Proofs.YtpinoobgnnlccaaW.PrintWords
set_option linter.unusedSimpArgs false
set_option linter.unusedVariables false
theorem rfind_l (S : List S44) (s : ByteArray) (hS : S.length ≤ 1000) : ∀ (k i : Nat), i ≤ S.length → S.length - i < k → emulatorref26_Find.l0 k S s (i : Int) = some (findFrom s (S.drop i) i) := by
  intro k
  induction k with
  | zero => intro i _ h; omega
  | succ k ih =>
    intro i hi hk
    rw [emulatorref26_Find.l0]
    by_cases h : i < S.length
    · have hd : S.drop i = S[i] :: S.drop (i + 1) := List.drop_eq_getElem_cons h
      have hr : rd_T44 S (i : Int) = S[i] := by unfold rd_T44; simp [h]
      have hw : wrap64 ((i : Int) + 1) = ((i + 1 : Nat) : Int) := by unfold wrap64; omega
      rw [if_pos (by omega), if_pos (by omega), hd, hr, findFrom, hw]
      by_cases h2 : S[i].f0.toList = s.toList
      · rw [if_pos h2, if_pos (by simp [h2])]
      · rw [if_neg h2, if_neg (by simpa using h2), ih (i + 1) (by omega) (by omega)]; simp
    · rw [if_neg (by omega), List.drop_of_length_le (by omega), findFrom]
theorem rfind_f (k : Nat) (S : List S44) (s : ByteArray) (hS : S.length ≤ 1000) : emulatorref26_Find.f (k + 1001) S s = some (findFrom s S 0) := by
  unfold emulatorref26_Find.f
  have := rfind_l S s hS (k + 1001) 0 (by omega) (by omega)
  simpa using this
end Go.Proofs.Ytpinoobgnnlccaa.A
