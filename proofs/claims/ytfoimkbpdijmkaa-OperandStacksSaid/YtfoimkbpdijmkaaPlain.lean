/- The plain laws of emulatorlaw05 (operand): what the printed functions come to, and that each law's function answers true. Numbers alone, no memory. Condition: none but the ranges of Go's ints. -/
import Derived.Test.YtfoimkbpdijmkaaBits2
import Derived.Test.YtfoimkbpdijmkaaAx12
import Derived.Test.YtfoimkbpdijmkaaAx11
import Derived.Test.YtfoimkbpdijmkaaAx9
import Derived.Test.YtfoimkbpdijmkaaAx7
namespace Go.Proofs.Ytfoimkbpdijmkaa.Plain
set_option linter.unusedSimpArgs false
set_option linter.unusedVariables false
open Go.RowKit Go.Proofs.Ytfoimkbpdijmkaa Go.Proofs.Ytfoimkbpdijmkaa.A

def Ext (a b : Int) : Prop := a % 8 = 6 ∨ a % 8 = 7 ∨ ((a % 8 = 2 ∨ a % 8 = 3) ∧ b % 8 = 7)
instance (a b : Int) : Decidable (Ext a b) := by unfold Ext; infer_instance
def Val (a b c : Int) : Prop := 0 ≤ a ∧ a ≤ 7 ∧ 0 ≤ b ∧ b ≤ 7 ∧ 0 ≤ c ∧ c ≤ 65535 ∧ (c = 0 ∨ Ext a b)
instance (a b c : Int) : Decidable (Val a b c) := by unfold Val; infer_instance

theorem mode_v (a b c : Int) : operand_mode.f a b c = some (a % 8) := by unfold operand_mode.f; rw [Bits.and7]
theorem reg_v (a b c : Int) : operand_reg.f a b c = some (b % 8) := by unfold operand_reg.f; rw [Bits.and7]
theorem rmode_v (a b c : Int) : emulatorref05_Mode.f a b c = some (a % 8) := by unfold emulatorref05_Mode.f; rw [Bits.and7]
theorem rreg_v (a b c : Int) : emulatorref05_Register.f a b c = some (b % 8) := by unfold emulatorref05_Register.f; rw [Bits.and7]
theorem deq {x : Bool} {P : Prop} [Decidable P] (h : x = true ↔ P) : some x = some (decide P) := by
  congr 1; rw [Bool.eq_iff_iff, decide_eq_true_iff]; exact h
theorem ext_v (k : Nat) (a b c : Int) : operand_Extended.f (k + 1) a b c = some (decide (Ext a b)) := by
  unfold operand_Extended.f
  simp only [operand_Extended.j0, mode_v, reg_v, Option.bind_some, beq_iff_eq]
  repeat' split
  all_goals (refine deq ?_; unfold Ext; simp only [beq_iff_eq, decide_eq_true_eq]; omega)
theorem rext_v (a b c : Int) : emulatorref05_Extended.f a b c = some (decide (Ext a b)) := by
  unfold emulatorref05_Extended.f
  simp only [rmode_v, rreg_v, Option.bind_some]
  repeat' split
  all_goals (refine deq ?_; unfold Ext; simp only [beq_iff_eq, decide_eq_true_eq, eq_self_iff_true, true_iff, Bool.false_eq_true, false_iff]; omega)
theorem valid_v (k : Nat) (a b c : Int) : operand_Valid.f (k + 1) a b c = some (decide (Val a b c)) := by
  unfold operand_Valid.f
  simp only [mode_v, reg_v, ext_v, Option.bind_some, Bits.and65535, decide_eq_true_eq]
  repeat' split
  all_goals (refine deq ?_; (try simp only [decide_eq_true_eq]); simp only [Val, Ext, beq_iff_eq, decide_eq_true_eq, eq_self_iff_true, true_iff, Bool.false_eq_true, false_iff] at *; omega)
theorem rvalid_v (a b c : Int) : emulatorref05_Valid.f a b c = some (decide (Val a b c)) := by
  unfold emulatorref05_Valid.f
  simp only [rext_v, Option.bind_some]
  repeat' split
  all_goals (refine deq ?_; (try simp only [decide_eq_true_eq]); simp only [Val, Ext, beq_iff_eq, decide_eq_true_eq, eq_self_iff_true, true_iff, Bool.false_eq_true, false_iff] at *; omega)
theorem writable_v (k : Nat) (a b c : Int) : operand_Writable.f (k + 1) a b c = some (decide (Val a b c ∧ ¬ (a = 2 ∧ b = 7))) := by
  unfold operand_Writable.f
  simp only [valid_v, Option.bind_some, decide_eq_true_eq]
  repeat' split
  all_goals (refine deq ?_; first | (simp [*]; done) | simp_all)
theorem rwritable_v (a b c : Int) : emulatorref05_Writable.f a b c = some (decide (Val a b c ∧ ¬ (a = 2 ∧ b = 7))) := by
  unfold emulatorref05_Writable.f
  simp only [rvalid_v, Option.bind_some, decide_eq_true_eq]
  repeat' split
  all_goals (refine deq ?_; first | (simp [*]; done) | simp_all)
theorem field_or (m r : Int) (h0 : 0 ≤ m) (h1 : m < 8) (h2 : 0 ≤ r) (h3 : r < 8) : Go.bits .or .i64 (m * 8) r = m * 8 + r :=
  bits_join .i64 63 (by decide) (fun n h0 h1 => Bits.wrap_small n (by omega) (by omega)) 3 (m * 8) r (by omega) (by omega) (by omega) h2 (by omega) (by omega)
theorem wrap_in (n : Int) (h0 : -9223372036854775808 ≤ n) (h1 : n ≤ 9223372036854775807) : wrap64 n = n := by unfold wrap64; omega
theorem field_v (a b c : Int) : operand_Field.f a b c = some (a % 8 * 8 + b % 8) := by
  unfold operand_Field.f
  simp only [mode_v, reg_v, Option.bind_some]
  rw [wrap_in _ (by omega) (by omega), field_or _ _ (by omega) (by omega) (by omega) (by omega)]
theorem rfield_v (a b c : Int) : emulatorref05_Field.f a b c = some (a % 8 * 8 + b % 8) := by
  unfold emulatorref05_Field.f
  simp only [rmode_v, rreg_v, Option.bind_some]
  rw [wrap_in (8 * (a % 8)) (by omega) (by omega), wrap_in _ (by omega) (by omega), Int.mul_comm]
theorem from_v (n : Int) : operand_From.f n = some (n / 8 % 8, n % 8, 0) := by
  unfold operand_From.f; rw [Bits.and7, Bits.and7]
theorem rfrom_v (n : Int) : emulatorref05_From.f n = some (n / 8 % 8, n % 8, 0) := by
  unfold emulatorref05_From.f
  rw [Bits.and63, Int.tdiv_eq_ediv_of_nonneg (by omega), Int.tmod_eq_emod_of_nonneg (by omega), wrap_in _ (by omega) (by omega)]
  congr 2
  · omega
  · congr 1; omega
theorem deferred_v (a b c : Int) : operand_Deferred.f a b c = some (decide (a % 8 = 3 ∨ a % 8 = 5 ∨ a % 8 = 7)) := by
  unfold operand_Deferred.f
  simp only [mode_v, Option.bind_some]
  rw [Int.tmod_eq_emod_of_nonneg (by omega)]
  split
  all_goals (refine deq ?_; simp only [beq_iff_eq, Bool.false_eq_true, false_iff]; omega)
theorem rdeferred_v (a b c : Int) : emulatorref05_Deferred.f a b c = some (decide (a % 8 = 3 ∨ a % 8 = 5 ∨ a % 8 = 7)) := by
  unfold emulatorref05_Deferred.f
  simp only [rmode_v, Option.bind_some]
  repeat' split
  all_goals (refine deq ?_; simp only [beq_iff_eq, eq_self_iff_true, true_iff]; omega)
def stp (a b : Int) (byt : Bool) : Int :=
  if Ext a b then 0 else
  let q := if byt = true ∧ b % 8 < 6 then 1 else 2
  if a % 8 = 2 then q else if a % 8 = 3 then 2 else if a % 8 = 4 then -q else if a % 8 = 5 then -2 else 0
theorem step_v (k : Nat) (a b c : Int) (byt : Bool) : operand_Step.f (k + 2) a b c byt = some (stp a b byt) := by
  unfold operand_Step.f stp
  simp only [ext_v, mode_v, reg_v, Option.bind_some, decide_eq_true_eq, operand_Step.j0, operand_Step.j1]
  by_cases he : Ext a b
  · simp only [he, if_true]
  · simp only [he, if_false]
    cases byt
    · simp only [Bool.false_eq_true, false_and, if_false]; simp only [wrap64]; repeat' split
      all_goals rfl
    · simp only [true_and, if_true]
      by_cases hb : b % 8 < 6
      · simp only [hb, if_true]; simp only [wrap64]; repeat' split
        all_goals rfl
      · simp only [hb, if_false]; simp only [wrap64]; repeat' split
        all_goals rfl
theorem rstep_v (k : Nat) (a b c : Int) (byt : Bool) : emulatorref05_Step.f (k + 2) a b c byt = some (stp a b byt) := by
  unfold emulatorref05_Step.f stp
  simp only [rext_v, rmode_v, rreg_v, Option.bind_some, decide_eq_true_eq, emulatorref05_Step.j0, emulatorref05_Step.j1]
  by_cases he : Ext a b
  · simp only [he, if_true]
  · simp only [he, if_false]
    cases byt
    · simp only [Bool.false_eq_true, false_and, if_false]; simp only [wrap64]; repeat' split
      all_goals rfl
    · simp only [true_and, if_true]
      by_cases hb : b % 8 < 6
      · simp only [hb, if_true]; simp only [wrap64]; repeat' split
        all_goals rfl
      · simp only [hb, if_false]; simp only [wrap64]; repeat' split
        all_goals rfl
theorem alive6 : emulatorlaw05_alive.f 6 = some true := by decide +kernel

theorem OperandValid (a b c : Int) : emulatorlaw05_OperandValid.f 6 a b c = some true := by
  unfold emulatorlaw05_OperandValid.f
  rw [valid_v 5, rvalid_v, writable_v 5, rwritable_v, alive6]
  simp
theorem OperandFields (a b c n : Int) : emulatorlaw05_OperandFields.f 6 a b c n = some true := by
  unfold emulatorlaw05_OperandFields.f
  rw [field_v, rfield_v, from_v, rfrom_v, alive6]
  simp
theorem OperandSteps (a b c : Int) (byt : Bool) : emulatorlaw05_OperandSteps.f 6 a b c byt = some true := by
  unfold emulatorlaw05_OperandSteps.f
  rw [ext_v 5, rext_v, deferred_v, rdeferred_v, step_v 4, rstep_v 4, alive6]
  simp
theorem alive5 : emulatorlaw05_alive.f 5 = some true := by decide +kernel
theorem OperandReturns (a b c n : Int) (h0 : 0 ≤ n) (h1 : n ≤ 255) : emulatorlaw05_OperandReturns.f 6 a b c n = some true := by
  unfold emulatorlaw05_OperandReturns.f
  have hw : wrap64 n = n := wrap_in _ (by omega) (by omega)
  rw [hw, Bits.and63, from_v]
  simp only [Option.bind_some, field_v]
  rw [if_pos (by omega), valid_v 5]
  have hv : Val (n % 64 / 8 % 8) (n % 64 % 8) 0 := by unfold Val; omega
  simp only [Option.bind_some, hv, decide_true, Bool.not_true, emulatorlaw05_OperandReturns.j0, Bool.false_eq_true, if_false]
  rw [valid_v 4, ext_v 4, alive5]
  simp only [Option.bind_some, decide_eq_true_eq, field_v, from_v, if_true]
  split
  · rename_i hv
    unfold Val at hv
    split
    · rename_i he
      rw [if_pos (by omega), if_pos (by omega), ext_v 4]
      have he2 : Ext ((a % 8 * 8 + b % 8) / 8 % 8) ((a % 8 * 8 + b % 8) % 8) := by unfold Ext at he ⊢; omega
      simp only [he2, decide_true, Option.bind_some, if_true]
    · rename_i he
      have e1 : (a % 8 * 8 + b % 8) / 8 % 8 = a := by omega
      have e2 : (a % 8 * 8 + b % 8) % 8 = b := by omega
      have e3 : (0 : Int) = c := by rcases hv with ⟨_, _, _, _, _, _, h | h⟩; exact h.symm; exact absurd h he
      rw [e1, e2, ← e3]
      simp
  · rfl
theorem OperandStacks (a b c : Int) (byt : Bool) : emulatorlaw05_OperandStacks.f 6 a b c byt = some true := by
  unfold emulatorlaw05_OperandStacks.f
  rw [step_v 4, ext_v 5, alive6]
  have h6 : Go.bits .and .i64 b 6 = 6 → b % 8 = 6 ∨ b % 8 = 7 := by
    intro h
    have e : Go.bits .and .i64 b 6 = Go.bits .and .i64 (b % 8) 6 := by
      have e1 : (6 : Int) = Go.bits .and .i64 7 6 := by decide +kernel
      rw [← Bits.and7 b, Bits.bits_and_def, Bits.bits_and_def, Bits.bits_and_def]
      have : BitVec.ofInt 64 (IntKind.i64.wrap ((BitVec.ofInt 64 b &&& BitVec.ofInt 64 7).toNat : Int)) = BitVec.ofInt 64 b &&& BitVec.ofInt 64 7 := Bits.ofInt_wrap _
      rw [this, BitVec.and_assoc]
      rfl
    rw [e] at h
    have hb : b % 8 = 0 ∨ b % 8 = 1 ∨ b % 8 = 2 ∨ b % 8 = 3 ∨ b % 8 = 4 ∨ b % 8 = 5 ∨ b % 8 = 6 ∨ b % 8 = 7 := by omega
    rcases hb with hb | hb | hb | hb | hb | hb | hb | hb <;> rw [hb] at h ⊢ <;> first | (exact absurd h (by decide +kernel)) | (left; rfl) | (right; rfl)
  simp only [Option.bind_some, decide_eq_true_eq]
  have hs : Ext a b → stp a b byt = 0 := fun h => by unfold stp; rw [if_pos h]
  have hr : stp a b byt = 0 ∨ stp a b byt = 1 ∨ stp a b byt = -1 ∨ stp a b byt = 2 ∨ stp a b byt = -2 := by
    unfold stp; simp only; repeat' split
    all_goals simp
  have hq : b % 8 = 6 ∨ b % 8 = 7 → stp a b byt = 0 ∨ stp a b byt = 2 ∨ stp a b byt = -2 := by
    intro h
    have : ¬ (byt = true ∧ b % 8 < 6) := by omega
    unfold stp; simp only [this, if_false]; repeat' split
    all_goals simp
  split
  · rename_i he
    rw [hs he, if_pos rfl, if_neg (by decide), if_neg (by decide)]
    split <;> rfl
  · rw [if_neg (by omega), if_neg (by omega)]
    split
    · rename_i h
      rcases hq (h6 h) with e | e | e <;> rw [e] <;> simp
    · rfl
end Go.Proofs.Ytfoimkbpdijmkaa.Plain
