/- The plain laws of emulatorlaw11 (trap): each law's function, as printed, answers true. Numbers and short texts alone, no memory. Conditions: the ranges of Go's ints. -/
import Derived.Test.YtflblckegjobnaaDoorBits
import Derived.Test.YtflblckegjobnaaDoorAx0
import Derived.Test.YtflblckegjobnaaDoorAx1
import Derived.Test.YtflblckegjobnaaDoorAx2
import Derived.Test.YtflblckegjobnaaDoorAx3
import Derived.Test.YtflblckegjobnaaDoorAx4
import Derived.Test.YtflblckegjobnaaDoorAx5
import Derived.Test.YtflblckegjobnaaDoorAx6
namespace Go.Proofs.YtflblckegjobnaaDoor.Plain
set_option linter.unusedSimpArgs false
set_option linter.unusedVariables false
open Go.RowKit Go.Proofs.YtflblckegjobnaaDoor.A Go.Proofs.YtflblckegjobnaaDoor.Bits Go.Proofs.YtflblckegjobnaaDoorW.PrintMore Go.Proofs.YtflblckegjobnaaDoorW.PrintWords

theorem alive_ge (n : Nat) : emulatorlaw11_alive.f (40 + n) = some true := by
  induction n with
  | zero => exact alive_K
  | succ n ih => exact emulatorlaw11_alive.mono (40 + n) true ih
theorem wrap_in (n : Int) (h0 : -9223372036854775808 ≤ n) (h1 : n ≤ 9223372036854775807) : wrap64 n = n := by unfold wrap64; omega
theorem known_yes (x : Int) (h : 1 ≤ x ∧ x ≤ 9) : trap_known.f x = some true := by
  unfold trap_known.f; rw [if_pos h.1, decide_eq_true h.2]
theorem known_no (x : Int) (h : x < 1 ∨ 9 < x) : trap_known.f x = some false := by
  unfold trap_known.f
  by_cases c : x ≥ 1
  · rw [if_pos c, decide_eq_false (by omega)]
  · rw [if_neg c]
theorem vec_yes (x : Int) (h : 1 ≤ x ∧ x ≤ 9) : trap_Vector.f x = some (4 * x) := by
  unfold trap_Vector.f; rw [known_yes x h]; simp only [Option.bind_some, if_true]; rw [wrap_in _ (by omega) (by omega)]
theorem vec_no (x : Int) (h : x < 1 ∨ 9 < x) : trap_Vector.f x = some 0 := by
  unfold trap_Vector.f; rw [known_no x h]; rfl
theorem rvec (x : Int) : emulatorref11_Vector.f x = trap_Vector.f x := rfl
theorem name_no (x : Int) (h : x < 1 ∨ 9 < x) : trap_Name.f x = some ⟨#[]⟩ := by unfold trap_Name.f; rw [if_neg (by omega)]
theorem vec_some (x : Int) : ∃ v, trap_Vector.f x = some v := by
  by_cases h : 1 ≤ x ∧ x ≤ 9
  · exact ⟨_, vec_yes x h⟩
  · exact ⟨_, vec_no x (by omega)⟩
theorem nine (x : Int) (h : 1 ≤ x ∧ x ≤ 9) : ∃ i : Fin 9, x = (i.val : Int) + 1 := ⟨⟨(x - 1).toNat, by omega⟩, by show x = ((x - 1).toNat : Int) + 1; omega⟩
theorem byv9 : ∀ i : Fin 9, trap_ByVector.f (4 * ((i.val : Int) + 1)) = some ((i.val : Int) + 1, true) ∧ emulatorref11_ByVector.f 40 (4 * ((i.val : Int) + 1)) = some ((i.val : Int) + 1, true) := by decide +kernel
theorem step (k : Nat) (v x : Int) (h : 1 ≤ x ∧ x ≤ 9) (hn : 4 * x ≠ v) : emulatorref11_ByVector.l0 (k + 1) v x = emulatorref11_ByVector.l0 k v (x + 1) := by
  rw [emulatorref11_ByVector.l0, if_pos h.2, rvec, vec_yes x h]; simp only [Option.bind_some]
  rw [if_neg hn, wrap_in _ (by omega) (by omega)]
theorem byv (v : Int) (hv0 : -9223372036854775808 ≤ v ∧ v ≤ 9223372036854775807) : ∃ x, trap_ByVector.f v = some x ∧ emulatorref11_ByVector.f 40 v = some x := by
  by_cases c : ∃ i : Fin 9, v = 4 * ((i.val : Int) + 1)
  · obtain ⟨i, rfl⟩ := c
    exact ⟨_, byv9 i⟩
  · have hn : ∀ x : Int, 1 ≤ x → x ≤ 9 → 4 * x ≠ v := fun x h1 h2 e => by
      obtain ⟨i, hi⟩ := nine x ⟨h1, h2⟩
      exact c ⟨i, by rw [← e, hi]⟩
    refine ⟨(0, false), ?_, ?_⟩
    · unfold trap_ByVector.f
      by_cases h : Int.tmod v 4 = 0
      · rw [if_pos h]
        have hv : v = 4 * Int.tdiv v 4 := by have := Int.mul_tdiv_add_tmod v 4; omega
        have hb : -9223372036854775808 ≤ Int.tdiv v 4 ∧ Int.tdiv v 4 ≤ 9223372036854775807 := by omega
        · rw [wrap_in _ hb.1 hb.2]
          have hk : Int.tdiv v 4 < 1 ∨ 9 < Int.tdiv v 4 := by
            by_cases k1 : 1 ≤ Int.tdiv v 4
            · by_cases k2 : Int.tdiv v 4 ≤ 9
              · exact absurd hv.symm (hn _ k1 k2)
              · omega
            · omega
          rw [known_no _ hk]; rfl
      · rw [if_neg h]
    · show emulatorref11_ByVector.l0 40 v 1 = _
      rw [step 39 v 1 (by decide) (hn 1 (by decide) (by decide)), show (1 : Int) + 1 = 2 from rfl, step 38 v 2 (by decide) (hn 2 (by decide) (by decide)), show (2 : Int) + 1 = 3 from rfl, step 37 v 3 (by decide) (hn 3 (by decide) (by decide)), show (3 : Int) + 1 = 4 from rfl,
        step 36 v 4 (by decide) (hn 4 (by decide) (by decide)), show (4 : Int) + 1 = 5 from rfl, step 35 v 5 (by decide) (hn 5 (by decide) (by decide)), show (5 : Int) + 1 = 6 from rfl, step 34 v 6 (by decide) (hn 6 (by decide) (by decide)), show (6 : Int) + 1 = 7 from rfl,
        step 33 v 7 (by decide) (hn 7 (by decide) (by decide)), show (7 : Int) + 1 = 8 from rfl, step 32 v 8 (by decide) (hn 8 (by decide) (by decide)), show (8 : Int) + 1 = 9 from rfl, step 31 v 9 (by decide) (hn 9 (by decide) (by decide)), show (9 : Int) + 1 = 10 from rfl]
      show emulatorref11_ByVector.l0 (30 + 1) v 10 = _
      rw [emulatorref11_ByVector.l0, if_neg (by decide)]
theorem TrapVectors (a b : Int) (hb : -9223372036854775808 ≤ b ∧ b ≤ 9223372036854775807) : emulatorlaw11_TrapVectors.f 40 a b = some true := by
  obtain ⟨x, e1, e2⟩ := byv b hb
  obtain ⟨v, e3⟩ := vec_some a
  unfold emulatorlaw11_TrapVectors.f
  rw [e1, e2, rvec, e3, alive_K]
  simp -implicitDefEqProofs only [Option.bind_some, if_true, beq_self_eq_true]

theorem names9 : ∀ i : Fin 9, emulatorref11_Name.f ((i.val : Int) + 1) = trap_Name.f ((i.val : Int) + 1) := by decide +kernel
theorem name_r (x : Int) : ∃ n, trap_Name.f x = some n ∧ emulatorref11_Name.f x = some n := by
  by_cases h : 1 ≤ x ∧ x ≤ 9
  · obtain ⟨i, rfl⟩ := nine x h
    refine ⟨nm ((i.val : Int) + 1 - 1).toNat, ?_, ?_⟩
    · unfold trap_Name.f; rw [if_pos h]
    · rw [names9 i]; unfold trap_Name.f; rw [if_pos h]
  · refine ⟨⟨#[]⟩, name_no x (by omega), ?_⟩
    unfold emulatorref11_Name.f
    rw [show emulatorref11_Is.f x = some false from known_no x (by omega)]; rfl
theorem abort_r (x : Int) : ∃ b, trap_Aborts.f x = some b ∧ emulatorref11_Aborts.f x = some b := by
  unfold trap_Aborts.f emulatorref11_Aborts.f
  by_cases h1 : x = 1
  · exact ⟨true, by rw [if_pos h1], by rw [if_pos h1]⟩
  by_cases h2 : x = 2
  · exact ⟨true, by rw [if_neg h1, if_pos h2], by rw [if_neg h1, if_pos h2]⟩
  by_cases h8 : x = 8
  · exact ⟨true, by rw [if_neg h1, if_neg h2, if_pos h8], by rw [if_neg h1, if_neg h2, if_pos h8]⟩
  by_cases h9 : x = 9
  · exact ⟨true, by rw [if_neg h1, if_neg h2, if_neg h8, if_pos h9], by rw [if_neg h1, if_neg h2, if_neg h8, beq_iff_eq.2 h9]⟩
  · exact ⟨false, by rw [if_neg h1, if_neg h2, if_neg h8, if_neg h9], by rw [if_neg h1, if_neg h2, if_neg h8, beq_eq_false_iff_ne.2 h9]⟩
theorem TrapNames (a : Int) : emulatorlaw11_TrapNames.f 40 a = some true := by
  obtain ⟨n, e1, e2⟩ := name_r a
  obtain ⟨b, e3, e4⟩ := abort_r a
  unfold emulatorlaw11_TrapNames.f
  rw [e1, e2, e3, e4, alive_K]
  simp -implicitDefEqProofs only [Option.bind_some, if_true, beq_self_eq_true]

theorem lists9 : ∀ i : Fin 9, emulatorlaw11_TrapLists.f 40 (i.val : Int) = some true := by decide +kernel
theorem TrapLists (a : Int) (h0 : 0 ≤ a) (h1 : a ≤ 255) : emulatorlaw11_TrapLists.f 40 a = some true := by
  have e : emulatorlaw11_TrapLists.f 40 a = emulatorlaw11_TrapLists.f 40 (a % 9) := by
    have v1 : trap_Vectors.f 40 = some [4, 8, 12, 16, 20, 24, 28, 32, 36] := by decide +kernel
    have v2 : emulatorref11_Vectors.f 40 = some [4, 8, 12, 16, 20, 24, 28, 32, 36] := by decide +kernel
    have t : Int.tmod (wrap64 a) (([4, 8, 12, 16, 20, 24, 28, 32, 36] : List Int).length : Int) = Int.tmod (wrap64 (a % 9)) (([4, 8, 12, 16, 20, 24, 28, 32, 36] : List Int).length : Int) := by
      show Int.tmod (wrap64 a) 9 = Int.tmod (wrap64 (a % 9)) 9
      rw [wrap_in a (by omega) (by omega), wrap_in (a % 9) (by omega) (by omega), Int.tmod_eq_emod_of_nonneg h0, Int.tmod_eq_emod_of_nonneg (by omega)]
      omega
    unfold emulatorlaw11_TrapLists.f
    rw [v1, v2]
    simp only [Option.bind_some]
    rw [t]
  rw [e]
  have := lists9 ⟨(a % 9).toNat, by omega⟩
  rw [show (((⟨(a % 9).toNat, by omega⟩ : Fin 9).val : Nat) : Int) = a % 9 by show ((a % 9).toNat : Int) = a % 9; omega] at this
  exact this

theorem both9 : ∀ i j : Fin 9, emulatorlaw11_TrapReturns.f 42 ((i.val : Int) + 1) ((j.val : Int) + 1) = some true := by decide +kernel
theorem own9 : ∀ i : Fin 9, trap_Name.f ((i.val : Int) + 1) = some (nm i.val) ∧ ((nm i.val).toList == ([] : List UInt8)) = false ∧ ((nm i.val).toList != ([] : List UInt8)) = true ∧ ((nm i.val).toList == (⟨#[]⟩ : ByteArray).toList) = false := by decide +kernel
theorem empty_l : ((⟨#[]⟩ : ByteArray).toList != ([] : List UInt8)) = false := by decide +kernel
theorem TrapReturns (a b : Int) : emulatorlaw11_TrapReturns.f 42 a b = some true := by
  by_cases ha : 1 ≤ a ∧ a ≤ 9
  · obtain ⟨i, rfl⟩ := nine a ha
    by_cases hb : 1 ≤ b ∧ b ≤ 9
    · obtain ⟨j, rfl⟩ := nine b hb
      exact both9 i j
    · have hal : emulatorlaw11_alive.f 40 = some true := alive_K
      obtain ⟨n1, n2, n3, n4⟩ := own9 i
      have v1 := vec_yes _ ha
      have v2 := vec_no b (by omega)
      have m2 := name_no b (by omega)
      have bv := (byv9 i).1
      have hne : ¬ (i.val : Int) + 1 = b := by omega
      have hv : (4 * ((i.val : Int) + 1) != 0) = true := bne_iff_ne.2 (by omega)
      generalize (i.val : Int) + 1 = a at *
      unfold emulatorlaw11_TrapReturns.f
      rw [v1]; simp only [Option.bind_some]
      rw [if_neg (by omega), bv]; simp only [Option.bind_some, if_true]
      rw [n1]; simp only [Option.bind_some]
      rw [n2]
      show emulatorlaw11_TrapReturns.j0 (41 + 1) a b false = _
      rw [emulatorlaw11_TrapReturns.j0, if_neg (by decide), if_neg hne, v1, v2]; simp only [Option.bind_some]
      rw [if_neg (by omega), n1, m2]; simp only [Option.bind_some]
      rw [n4]
      show emulatorlaw11_TrapReturns.j1 (40 + 1) a false = _
      rw [emulatorlaw11_TrapReturns.j1, if_neg (by decide), v1, n1]; simp only [Option.bind_some]
      rw [hv, n3, if_pos (show (true == true) = true from rfl), hal]; rfl
  · have hal : emulatorlaw11_alive.f 42 = some true := alive_ge 2
    unfold emulatorlaw11_TrapReturns.f
    rw [vec_no a (by omega), name_no a (by omega)]; simp only [Option.bind_some, if_true]
    rw [empty_l, if_pos (show (((0 : Int) != 0) == false) = true from rfl), hal]; rfl
end Go.Proofs.YtflblckegjobnaaDoor.Plain
