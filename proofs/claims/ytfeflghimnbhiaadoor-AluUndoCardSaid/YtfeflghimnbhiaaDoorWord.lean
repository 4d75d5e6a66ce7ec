/- The plain functions of package word and of its reference (emulatorref01), as printed, come to these numbers. Numbers alone, no memory. Conditions: none (every int), but where a bound is stated. -/
import Derived.Test.YtfeflghimnbhiaaDoorBits
import Derived.Test.YtfeflghimnbhiaaDoorAx0
import Derived.Test.YtfeflghimnbhiaaDoorAx1
import Derived.Test.YtfeflghimnbhiaaDoorAx2
import Derived.Test.YtfeflghimnbhiaaDoorAx3
import Derived.Test.YtfeflghimnbhiaaDoorAx4
import Derived.Test.YtfeflghimnbhiaaDoorAx5
import Derived.Test.YtfeflghimnbhiaaDoorAx6
import Derived.Test.YtfeflghimnbhiaaDoorAx7
import Derived.Test.YtfeflghimnbhiaaDoorAx8
import Derived.Test.YtfeflghimnbhiaaDoorAx9
import Derived.Test.YtfeflghimnbhiaaDoorAx10
import Derived.Test.YtfeflghimnbhiaaDoorAx11
import Derived.Test.YtfeflghimnbhiaaDoorAx12
import Derived.Test.YtfeflghimnbhiaaDoorAx13
import Derived.Test.YtfeflghimnbhiaaDoorAx14
import Derived.Test.YtfeflghimnbhiaaDoorAx15
import Derived.Test.YtfeflghimnbhiaaDoorAx16
import Derived.Test.YtfeflghimnbhiaaDoorAx17
import Derived.Test.YtfeflghimnbhiaaDoorAx18
import Derived.Test.YtfeflghimnbhiaaDoorAx19
import Derived.Test.YtfeflghimnbhiaaDoorAx20
import Derived.Test.YtfeflghimnbhiaaDoorAx21
import Derived.Test.YtfeflghimnbhiaaDoorAx22
import Derived.Test.YtfeflghimnbhiaaDoorAx23
import Derived.Test.YtfeflghimnbhiaaDoorAx24
import Derived.Test.YtfeflghimnbhiaaDoorAx25
namespace Go.Proofs.YtfeflghimnbhiaaDoor.Wd
set_option linter.unusedSimpArgs false
set_option linter.unusedVariables false
open Go.RowKit Go.Proofs.YtfeflghimnbhiaaDoor.A Go.Proofs.YtfeflghimnbhiaaDoor.Bits

theorem wrap_in (n : Int) (h0 : -9223372036854775808 ≤ n) (h1 : n ≤ 9223372036854775807) : wrap64 n = n := by unfold wrap64; omega
theorem bv_and (x y : Int) : BitVec.ofInt 64 (Go.bits .and .i64 x y) = BitVec.ofInt 64 x &&& BitVec.ofInt 64 y := by rw [bits_and_def]; exact ofInt_wrap _
theorem bv_or (x y : Int) : BitVec.ofInt 64 (Go.bits .or .i64 x y) = BitVec.ofInt 64 x ||| BitVec.ofInt 64 y := by rw [bits_or_def]; exact ofInt_wrap _
theorem bv_xor (x y : Int) : BitVec.ofInt 64 (Go.bits .xor .i64 x y) = BitVec.ofInt 64 x ^^^ BitVec.ofInt 64 y := by rw [bits_xor_def]; exact ofInt_wrap _
theorem and_32768 (x : Int) : Go.bits .and .i64 x 32768 = if (BitVec.ofInt 64 x).getLsbD 15 = true then 32768 else 0 := by
  rw [bits_and_def, show BitVec.ofInt 64 32768 = BitVec.twoPow 64 15 from by decide, BitVec.and_twoPow]; split <;> decide +kernel
theorem and_128 (x : Int) : Go.bits .and .i64 x 128 = if (BitVec.ofInt 64 x).getLsbD 7 = true then 128 else 0 := by
  rw [bits_and_def, show BitVec.ofInt 64 128 = BitVec.twoPow 64 7 from by decide, BitVec.and_twoPow]; split <;> decide +kernel
theorem and_2 (x : Int) : Go.bits .and .i64 x 2 = if (BitVec.ofInt 64 x).getLsbD 1 = true then 2 else 0 := by
  rw [bits_and_def, show BitVec.ofInt 64 2 = BitVec.twoPow 64 1 from by decide, BitVec.and_twoPow]; split <;> decide +kernel
theorem and_4 (x : Int) : Go.bits .and .i64 x 4 = if (BitVec.ofInt 64 x).getLsbD 2 = true then 4 else 0 := by
  rw [bits_and_def, show BitVec.ofInt 64 4 = BitVec.twoPow 64 2 from by decide, BitVec.and_twoPow]; split <;> decide +kernel
theorem and_8 (x : Int) : Go.bits .and .i64 x 8 = if (BitVec.ofInt 64 x).getLsbD 3 = true then 8 else 0 := by
  rw [bits_and_def, show BitVec.ofInt 64 8 = BitVec.twoPow 64 3 from by decide, BitVec.and_twoPow]; split <;> decide +kernel
theorem lsb (x : Int) (k : Nat) : (BitVec.ofInt 64 x).getLsbD k = decide ((x % 18446744073709551616).toNat / 2 ^ k % 2 = 1) := by
  rw [BitVec.getLsbD, ofInt_toNat, Nat.testBit_eq_decide_div_mod_eq]
theorem lsb15 (x : Int) : (BitVec.ofInt 64 x).getLsbD 15 = decide (32768 ≤ x % 65536) := by
  rw [lsb]; apply Bool.eq_iff_iff.2; simp only [decide_eq_true_eq]; omega
theorem lsb7 (x : Int) : (BitVec.ofInt 64 x).getLsbD 7 = decide (128 ≤ x % 256) := by
  rw [lsb]; apply Bool.eq_iff_iff.2; simp only [decide_eq_true_eq]; omega
theorem lsb1 (x : Int) : (BitVec.ofInt 64 x).getLsbD 1 = decide (2 ≤ x % 4) := by
  rw [lsb]; apply Bool.eq_iff_iff.2; simp only [decide_eq_true_eq]; omega
theorem lsb2 (x : Int) : (BitVec.ofInt 64 x).getLsbD 2 = decide (4 ≤ x % 8) := by
  rw [lsb]; apply Bool.eq_iff_iff.2; simp only [decide_eq_true_eq]; omega
theorem lsb3 (x : Int) : (BitVec.ofInt 64 x).getLsbD 3 = decide (8 ≤ x % 16) := by
  rw [lsb]; apply Bool.eq_iff_iff.2; simp only [decide_eq_true_eq]; omega
theorem ne_32768 (x : Int) : (Go.bits .and .i64 x 32768 != 0) = (BitVec.ofInt 64 x).getLsbD 15 := by
  rw [and_32768]; cases (BitVec.ofInt 64 x).getLsbD 15 <;> rfl
theorem ne_128 (x : Int) : (Go.bits .and .i64 x 128 != 0) = (BitVec.ofInt 64 x).getLsbD 7 := by
  rw [and_128]; cases (BitVec.ofInt 64 x).getLsbD 7 <;> rfl
theorem ne_2 (x : Int) : (Go.bits .and .i64 x 2 != 0) = (BitVec.ofInt 64 x).getLsbD 1 := by
  rw [and_2]; cases (BitVec.ofInt 64 x).getLsbD 1 <;> rfl
theorem ne_4 (x : Int) : (Go.bits .and .i64 x 4 != 0) = (BitVec.ofInt 64 x).getLsbD 2 := by
  rw [and_4]; cases (BitVec.ofInt 64 x).getLsbD 2 <;> rfl
theorem ne_8 (x : Int) : (Go.bits .and .i64 x 8 != 0) = (BitVec.ofInt 64 x).getLsbD 3 := by
  rw [and_8]; cases (BitVec.ofInt 64 x).getLsbD 3 <;> rfl

def M (b : Bool) : Int := if b = true then 256 else 65536
/-- the sign bit, and whether it is zero -/
def S (x : Int) (b : Bool) : Bool := if b = true then decide (128 ≤ x % 256) else decide (32768 ≤ x % 65536)
def Z (x : Int) (b : Bool) : Bool := if b = true then decide (x % 256 = 0) else decide (x % 65536 = 0)
def bi (b : Bool) (n : Int) : Int := if b = true then n else 0
def fl (x : Int) (b : Bool) : Int := bi (S x b) 8 + bi (Z x b) 4
theorem S_mod (x : Int) (b : Bool) : S (x % M b) b = S x b := by cases b <;> simp [S, M]
theorem Z_mod (x : Int) (b : Bool) : Z (x % M b) b = Z x b := by cases b <;> simp [Z, M]
theorem fl_mod (x : Int) (b : Bool) : fl (x % M b) b = fl x b := by unfold fl; rw [S_mod, Z_mod]
theorem and_M (x : Int) (b : Bool) : Go.bits .and .i64 x (M b - 1) = x % M b := by
  cases b
  · exact and65535 x
  · exact and255 x
theorem or2 (a b : Bool) : Go.bits .or .i64 (bi a 8) (bi b 4) = bi a 8 + bi b 4 := by cases a <;> cases b <;> decide +kernel
theorem or4 (a b c d : Bool) : Go.bits .or .i64 (Go.bits .or .i64 (bi a 8 + bi b 4) (bi c 1)) (bi d 2) = bi a 8 + bi b 4 + bi c 1 + bi d 2 := by
  cases a <;> cases b <;> cases c <;> cases d <;> decide +kernel
theorem when_v (b : Bool) (n : Int) : word_when.f b n = some (bi b n) := by unfold word_when.f bi; split <;> rfl
theorem of_v (b : Bool) : word_of.f b = some (M b - 1, M b / 2, M b) := by cases b <;> rfl
theorem ne_sg (x : Int) (b : Bool) : (Go.bits .and .i64 x (M b / 2) != 0) = S x b := by
  cases b
  · show (Go.bits .and .i64 x 32768 != 0) = _; rw [ne_32768, lsb15]; rfl
  · show (Go.bits .and .i64 x 128 != 0) = _; rw [ne_128, lsb7]; rfl
theorem eq0 (x : Int) (b : Bool) : (Go.bits .and .i64 x (M b - 1) == 0) = Z x b := by
  rw [and_M]; cases b <;> simp only [Z, M] <;> exact Bool.eq_iff_iff.2 (by simp)
theorem flags_v (x : Int) (b : Bool) : word_Flags.f x b = some (fl x b) := by
  unfold word_Flags.f fl
  rw [of_v]
  simp only [Option.bind_some, when_v]
  rw [ne_sg, eq0, or2]
/-- two numbers differ in the sign bit -/
theorem xor_sg (x y : Int) (b : Bool) : S (Go.bits .xor .i64 x y) b = (S x b != S y b) := by
  cases b
  · simp only [S, Bool.false_eq_true, if_false]; rw [← lsb15, ← lsb15, ← lsb15, bv_xor, BitVec.getLsbD_xor]
  · simp only [S, if_true]; rw [← lsb7, ← lsb7, ← lsb7, bv_xor, BitVec.getLsbD_xor]
theorem and_sg (x y : Int) (b : Bool) : S (Go.bits .and .i64 x y) b = (S x b && S y b) := by
  cases b
  · simp only [S, Bool.false_eq_true, if_false]; rw [← lsb15, ← lsb15, ← lsb15, bv_and, BitVec.getLsbD_and]
  · simp only [S, if_true]; rw [← lsb7, ← lsb7, ← lsb7, bv_and, BitVec.getLsbD_and]
theorem M_pos (b : Bool) : 0 < M b := by cases b <;> decide
theorem M_le (b : Bool) : M b = 256 ∨ M b = 65536 := by cases b <;> simp [M]
def addN (a b c : Int) (w : Bool) : Int := a % M w + b % M w + c % 2
def addP (a b c : Int) (w : Bool) : Int × Int :=
  (addN a b c w % M w, bi (S (addN a b c w) w) 8 + bi (Z (addN a b c w) w) 4 + bi (decide (M w ≤ addN a b c w)) 1 + bi ((S a w != S (addN a b c w) w) && (S b w != S (addN a b c w) w)) 2)
theorem add_v (a b c : Int) (w : Bool) : word_Add.f a b c w = some (addP a b c w) := by
  unfold word_Add.f
  rw [of_v]
  simp only [Option.bind_some]
  rw [and_M a, and_M b, and1]
  have hb := M_le w
  have hp := M_pos w
  have h1 := Int.emod_nonneg a (Int.ne_of_gt hp)
  have h2 := Int.emod_lt_of_pos a hp
  have h3 := Int.emod_nonneg b (Int.ne_of_gt hp)
  have h4 := Int.emod_lt_of_pos b hp
  have e1 : wrap64 (wrap64 (a % M w + b % M w) + c % 2) = addN a b c w := by
    unfold addN; rw [wrap_in (a % M w + b % M w) (by omega) (by omega), wrap_in _ (by omega) (by omega)]
  rw [e1, and_M, flags_v]
  simp only [Option.bind_some, when_v]
  rw [ne_sg, and_sg, xor_sg, xor_sg, fl_mod, S_mod, S_mod, S_mod]
  unfold fl
  rw [or4]
  rfl
def subN (a b c : Int) (w : Bool) : Int := a % M w - b % M w - c % 2
def subP (a b c : Int) (w : Bool) : Int × Int :=
  (subN a b c w % M w, bi (S (subN a b c w) w) 8 + bi (Z (subN a b c w) w) 4 + bi (decide (subN a b c w < 0)) 1 + bi ((S a w != S b w) && (S a w != S (subN a b c w) w)) 2)
theorem sub_v (a b c : Int) (w : Bool) : word_Sub.f a b c w = some (subP a b c w) := by
  unfold word_Sub.f
  rw [of_v]
  simp only [Option.bind_some]
  rw [and_M a, and_M b, and1]
  have hb := M_le w
  have hp := M_pos w
  have h1 := Int.emod_nonneg a (Int.ne_of_gt hp)
  have h2 := Int.emod_lt_of_pos a hp
  have h3 := Int.emod_nonneg b (Int.ne_of_gt hp)
  have h4 := Int.emod_lt_of_pos b hp
  have e1 : wrap64 (wrap64 (a % M w - b % M w) - c % 2) = subN a b c w := by
    unfold subN; rw [wrap_in (a % M w - b % M w) (by omega) (by omega), wrap_in _ (by omega) (by omega)]
  rw [e1, and_M, flags_v]
  simp only [Option.bind_some, when_v]
  rw [ne_sg, and_sg, xor_sg, xor_sg, fl_mod, S_mod, S_mod, S_mod]
  unfold fl
  rw [or4]
  rfl

/-! ### the reference -/
theorem mask_v (w : Bool) : emulatorref01_mask.f w = some (M w - 1) := by cases w <;> rfl
theorem sign_v (x : Int) (w : Bool) : emulatorref01_sign.f x w = some (bi (S x w) 1) := by
  unfold emulatorref01_sign.f
  rw [mask_v]
  simp only [Option.bind_some]
  rw [and_M]
  have e : wrap64 (Int.tdiv (M w - 1) 2) = M w / 2 - 1 := by cases w <;> decide +kernel
  rw [e]
  cases w
  · simp only [M, S, bi, Bool.false_eq_true, if_false, decide_eq_true_eq]; split <;> split <;> first | rfl | omega
  · simp only [M, S, bi, if_true, decide_eq_true_eq]; split <;> split <;> first | rfl | omega
theorem rflags_v (x : Int) (w : Bool) : emulatorref01_Flags.f x w = some (fl x w) := by
  unfold emulatorref01_Flags.f
  rw [sign_v, mask_v]
  simp only [Option.bind_some]
  have e := eq0 x w
  have h : Go.bits .and .i64 x (M w - 1) = 0 ↔ Z x w = true := by rw [← e, beq_iff_eq]
  unfold fl
  by_cases hz : Z x w = true
  · rw [if_pos (h.2 hz), hz]; cases S x w <;> decide +kernel
  · have hz' : Z x w = false := by simpa using hz
    rw [if_neg (fun q => hz (h.1 q)), hz']; cases S x w <;> decide +kernel
theorem fl_bd (x : Int) (w : Bool) : 0 ≤ fl x w ∧ fl x w ≤ 12 := by unfold fl; cases S x w <;> cases Z x w <;> decide +kernel
theorem bi1_eq (a b : Bool) : (bi a 1 = bi b 1) ↔ a = b := by cases a <;> cases b <;> decide
theorem radd_v (k : Nat) (a b c : Int) (w : Bool) : emulatorref01_Add.f (k + 1) a b c w = some (addP a b c w) := by
  unfold emulatorref01_Add.f
  rw [mask_v]
  simp only [Option.bind_some]
  rw [and_M a, and_M b, and1]
  have hb := M_le w
  have hp := M_pos w
  have h1 := Int.emod_nonneg a (Int.ne_of_gt hp)
  have h2 := Int.emod_lt_of_pos a hp
  have h3 := Int.emod_nonneg b (Int.ne_of_gt hp)
  have h4 := Int.emod_lt_of_pos b hp
  have e1 : wrap64 (wrap64 (a % M w + b % M w) + c % 2) = addN a b c w := by
    unfold addN; rw [wrap_in (a % M w + b % M w) (by omega) (by omega), wrap_in _ (by omega) (by omega)]
  rw [e1, and_M, rflags_v, fl_mod]
  simp only [Option.bind_some, emulatorref01_Add.j0, sign_v, bi1_eq]
  rw [S_mod]
  have hf := fl_bd (addN a b c w) w
  unfold addP
  have hx : bi (S (addN a b c w) w) 8 + bi (Z (addN a b c w) w) 4 = fl (addN a b c w) w := rfl
  rw [hx]
  generalize S a w = sa
  generalize S b w = sb
  generalize S (addN a b c w) w = sn
  by_cases hn : M w ≤ addN a b c w
  · rw [if_pos (show addN a b c w > M w - 1 by omega), decide_eq_true hn, wrap_in (fl (addN a b c w) w + 1) (by omega) (by omega), wrap_in (fl (addN a b c w) w + 1 + 2) (by omega) (by omega)]
    cases sa <;> cases sb <;> cases sn <;> simp [bi]
  · rw [if_neg (show ¬ addN a b c w > M w - 1 by omega), decide_eq_false hn, wrap_in (fl (addN a b c w) w + 2) (by omega) (by omega)]
    cases sa <;> cases sb <;> cases sn <;> simp [bi]
theorem rsub_v (k : Nat) (a b c : Int) (w : Bool) : emulatorref01_Sub.f (k + 1) a b c w = some (subP a b c w) := by
  unfold emulatorref01_Sub.f
  rw [mask_v]
  simp only [Option.bind_some]
  rw [and_M a, and_M b, and1]
  have hb := M_le w
  have hp := M_pos w
  have h1 := Int.emod_nonneg a (Int.ne_of_gt hp)
  have h2 := Int.emod_lt_of_pos a hp
  have h3 := Int.emod_nonneg b (Int.ne_of_gt hp)
  have h4 := Int.emod_lt_of_pos b hp
  have e1 : wrap64 (wrap64 (a % M w - b % M w) - c % 2) = subN a b c w := by
    unfold subN; rw [wrap_in (a % M w - b % M w) (by omega) (by omega), wrap_in _ (by omega) (by omega)]
  rw [e1, and_M, rflags_v, fl_mod]
  simp only [Option.bind_some, emulatorref01_Sub.j0, sign_v, bi1_eq]
  rw [S_mod]
  have hf := fl_bd (subN a b c w) w
  unfold subP
  have hx : bi (S (subN a b c w) w) 8 + bi (Z (subN a b c w) w) 4 = fl (subN a b c w) w := rfl
  rw [hx]
  generalize S a w = sa
  generalize S b w = sb
  generalize S (subN a b c w) w = sn
  by_cases hn : subN a b c w < 0
  · rw [if_pos hn, decide_eq_true hn, wrap_in (fl (subN a b c w) w + 1) (by omega) (by omega), wrap_in (fl (subN a b c w) w + 1 + 2) (by omega) (by omega)]
    cases sa <;> cases sb <;> cases sn <;> simp [bi]
  · rw [if_neg hn, decide_eq_false hn, wrap_in (fl (subN a b c w) w + 2) (by omega) (by omega)]
    cases sa <;> cases sb <;> cases sn <;> simp [bi]

/-! ### signed values, products, quotients -/
/-- the signed value -/
def sv (x : Int) (w : Bool) : Int := if S x w = true then x % M w - M w else x % M w
theorem sv_bd (x : Int) : -32768 ≤ sv x false ∧ sv x false ≤ 32767 := by
  unfold sv S M; simp only [Bool.false_eq_true, if_false, decide_eq_true_eq]; split <;> omega
theorem sv8_bd (x : Int) : -128 ≤ sv x true ∧ sv x true ≤ 127 := by
  unfold sv S M; simp only [if_true, decide_eq_true_eq]; split <;> omega
theorem sv_mod (x : Int) : sv x false % 65536 = x % 65536 := by
  unfold sv S M; simp only [Bool.false_eq_true, if_false, decide_eq_true_eq]; split <;> omega
theorem sv_of (x y : Int) (h : x % 65536 = y % 65536) : sv x false = sv y false := by
  unfold sv S M; simp only [Bool.false_eq_true, if_false]; rw [h]
theorem sv_id (x : Int) (h0 : -32768 ≤ x) (h1 : x ≤ 32767) : sv x false = x := by
  unfold sv S M; simp only [Bool.false_eq_true, if_false, decide_eq_true_eq]; split <;> omega
theorem wrap_i16 (n : Int) : IntKind.i16.wrap n = sv n false := by
  have h : IntKind.i16.wrap n = (n + 32768) % 65536 - 32768 := by
    simp [IntKind.wrap, IntKind.bits, IntKind.signed]
    split <;> omega
  rw [h]; unfold sv S M; simp only [Bool.false_eq_true, if_false, decide_eq_true_eq]; split <;> omega
theorem signed_v (x : Int) : word_Signed.f x = some (sv x false) := by
  unfold word_Signed.f; have := sv_bd x; rw [wrap_i16, wrap_in _ (by omega) (by omega)]
theorem wrap_v (x : Int) : word_Wrap.f x = some (x % 65536) := by unfold word_Wrap.f; rw [and65535]
theorem rwrap_v (x : Int) : emulatorref01_Wrap.f x = some (x % 65536) := by unfold emulatorref01_Wrap.f; rw [and65535]
theorem value_v (x : Int) (w : Bool) : emulatorref01_value.f x w = some (sv x w) := by
  unfold emulatorref01_value.f
  rw [mask_v, sign_v]
  simp only [Option.bind_some]
  rw [and_M]
  have hb := M_le w
  have hp := M_pos w
  have h1 := Int.emod_nonneg x (Int.ne_of_gt hp)
  have h2 := Int.emod_lt_of_pos x hp
  unfold sv
  cases S x w
  · simp [bi]
  · simp only [bi, if_true]; rw [wrap_in (M w - 1 + 1) (by omega) (by omega), wrap_in _ (by omega) (by omega)]; congr 1; omega
theorem rsigned_v (x : Int) : emulatorref01_Signed.f x = some (sv x false) := by unfold emulatorref01_Signed.f; rw [value_v]; rfl
theorem mul_bd (x y : Int) (hx0 : -32768 ≤ x) (hx1 : x ≤ 32767) (hy0 : -32768 ≤ y) (hy1 : y ≤ 32767) : -1073741824 ≤ x * y ∧ x * y ≤ 1073741824 := by
  have a1 : 0 ≤ (x + 32768) * (y + 32768) := Int.mul_nonneg (by omega) (by omega)
  have a2 : 0 ≤ (32768 - x) * (32768 - y) := Int.mul_nonneg (by omega) (by omega)
  have a3 : 0 ≤ (x + 32768) * (32768 - y) := Int.mul_nonneg (by omega) (by omega)
  have a4 : 0 ≤ (32768 - x) * (y + 32768) := Int.mul_nonneg (by omega) (by omega)
  simp only [Int.add_mul, Int.mul_add, Int.sub_mul, Int.mul_sub] at a1 a2 a3 a4
  generalize x * y = p at *
  constructor <;> omega
def prod (a b : Int) : Int := sv a false * sv b false
theorem prod_bd (a b : Int) : -1073741824 ≤ prod a b ∧ prod a b ≤ 1073741824 := mul_bd _ _ (sv_bd a).1 (sv_bd a).2 (sv_bd b).1 (sv_bd b).2
def mulP (a b : Int) : Int × Int × Int :=
  (prod a b / 65536 % 65536, prod a b % 65536, bi (decide (prod a b < 0)) 8 + bi (decide (prod a b = 0)) 4 + bi (decide (prod a b < -32768 ∨ prod a b > 32767)) 1)
theorem or3 (a b c : Bool) : Go.bits .or .i64 (Go.bits .or .i64 (bi a 8) (bi b 4)) (bi c 1) = bi a 8 + bi b 4 + bi c 1 := by cases a <;> cases b <;> cases c <;> decide +kernel
theorem ne_sv (p : Int) : (p != sv p false) = decide (p < -32768 ∨ p > 32767) := by
  apply Bool.eq_iff_iff.2
  rw [bne_iff_ne, decide_eq_true_iff]
  have := sv_bd p
  constructor
  · intro h
    apply Classical.byContradiction; intro hc
    exact h (sv_id p (by omega) (by omega)).symm
  · intro h e; omega
theorem mul_v (a b : Int) : word_Mul.f a b = some (mulP a b) := by
  have hp := prod_bd a b
  unfold word_Mul.f
  rw [signed_v, signed_v]
  simp -implicitDefEqProofs only [Option.bind_some]
  have e : wrap64 (sv a false * sv b false) = prod a b := wrap_in _ (by show _ ≤ prod a b; omega) (by show prod a b ≤ _; omega)
  rw [e]
  unfold mulP
  clear e
  generalize prod a b = p at hp
  have e0 : (p == 0) = decide (p = 0) := Bool.eq_iff_iff.2 (by rw [beq_iff_eq, decide_eq_true_iff])
  simp -implicitDefEqProofs only [wrap_v, when_v, signed_v, Option.bind_some]
  rw [ne_sv, e0, or3]
theorem rmul_v (k : Nat) (a b : Int) : emulatorref01_Mul.f (k + 3) a b = some (mulP a b) := by
  have hp := prod_bd a b
  unfold emulatorref01_Mul.f
  rw [rsigned_v, rsigned_v]
  simp only [Option.bind_some]
  have e : wrap64 (sv a false * sv b false) = prod a b := wrap_in _ (by show _ ≤ prod a b; omega) (by show prod a b ≤ _; omega)
  rw [e]
  unfold mulP
  generalize prod a b = p at hp
  simp only [emulatorref01_Mul.j0, emulatorref01_Mul.j1, emulatorref01_Mul.j2, rwrap_v, Option.bind_some]
  by_cases h1 : p < 0
  · by_cases h2 : p < -32768
    · have h3 : ¬ p = 0 := by omega
      simp [h1, h2, h3, bi, wrap64]
    · have h3 : ¬ p = 0 := by omega
      have h4 : ¬ p > 32767 := by omega
      simp [h1, h2, h3, h4, bi, wrap64]
  · by_cases h3 : p = 0
    · subst h3; simp [bi, wrap64]
    · by_cases h4 : p > 32767
      · have h2 : ¬ p < -32768 := by omega
        simp [h1, h2, h3, h4, bi, wrap64]
      · have h2 : ¬ p < -32768 := by omega
        simp [h1, h2, h3, h4, bi, wrap64]
def num (a b : Int) : Int := sv a false * 65536 + b % 65536
theorem num_bd (a b : Int) : -2147483648 ≤ num a b ∧ num a b ≤ 2147483647 := by have := sv_bd a; unfold num; omega
theorem tdiv_bd (n k : Int) (h0 : -2147483648 ≤ n) (h1 : n ≤ 2147483647) (hk : k ≠ 0) : -2147483648 ≤ Int.tdiv n k ∧ Int.tdiv n k ≤ 2147483648 := by
  have h : (Int.tdiv n k).natAbs ≤ n.natAbs := by rw [Int.natAbs_tdiv]; exact Nat.div_le_self _ _
  omega
def divP (a b c : Int) : Int × Int × Int × Bool :=
  if sv c false = 0 then (0, 0, 3, false) else
  if Int.tdiv (num a b) (sv c false) < -32768 ∨ Int.tdiv (num a b) (sv c false) > 32767 then (0, 0, 2, false) else
  (Int.tdiv (num a b) (sv c false) % 65536, Int.tmod (num a b) (sv c false) % 65536, fl (Int.tdiv (num a b) (sv c false)) false, true)
theorem div_v (a b c : Int) : word_Div.f a b c = some (divP a b c) := by
  have hn := num_bd a b
  have ha := sv_bd a
  unfold word_Div.f divP
  rw [signed_v, signed_v, wrap_v]
  simp only [Option.bind_some]
  have e : wrap64 (wrap64 (sv a false * 65536) + b % 65536) = num a b := by
    unfold num; rw [wrap_in (sv a false * 65536) (by omega) (by omega), wrap_in _ (by omega) (by omega)]
  rw [e]
  by_cases hc : sv c false = 0
  · rw [if_pos hc, if_pos hc]
  · rw [if_neg hc, if_neg hc]
    have hq := tdiv_bd _ _ hn.1 hn.2 hc
    rw [wrap_in (Int.tdiv _ _) (by omega) (by omega)]
    simp only [signed_v, wrap_v, flags_v, Option.bind_some]
    have h := ne_sv (Int.tdiv (num a b) (sv c false))
    by_cases ho : Int.tdiv (num a b) (sv c false) < -32768 ∨ Int.tdiv (num a b) (sv c false) > 32767
    · rw [decide_eq_true ho, bne_iff_ne] at h
      rw [if_neg h, if_pos ho]
    · rw [decide_eq_false ho, bne_eq_false_iff_eq] at h
      rw [if_pos h, if_neg ho]
theorem rdiv_v (k : Nat) (a b c : Int) : emulatorref01_Div.f (k + 1) a b c = some (divP a b c) := by
  have hn := num_bd a b
  have ha := sv_bd a
  unfold emulatorref01_Div.f divP
  rw [rsigned_v, rsigned_v, rwrap_v]
  simp only [Option.bind_some]
  have e : wrap64 (wrap64 (sv a false * 65536) + b % 65536) = num a b := by
    unfold num; rw [wrap_in (sv a false * 65536) (by omega) (by omega), wrap_in _ (by omega) (by omega)]
  rw [e]
  by_cases hc : sv c false = 0
  · rw [if_pos hc, if_pos hc]
  · rw [if_neg hc, if_neg hc]
    have hq := tdiv_bd _ _ hn.1 hn.2 hc
    rw [wrap_in (Int.tdiv _ _) (by omega) (by omega)]
    simp only [emulatorref01_Div.j0, rwrap_v, rflags_v, Option.bind_some, decide_eq_true_eq]
    have hm : wrap64 (num a b - wrap64 (Int.tdiv (num a b) (sv c false) * sv c false)) = Int.tmod (num a b) (sv c false) := by
      have h1 : Int.tmod (num a b) (sv c false) = num a b - Int.tdiv (num a b) (sv c false) * sv c false := by
        rw [Int.tmod_def, Int.mul_comm]
      have h2 : (Int.tmod (num a b) (sv c false)).natAbs ≤ (num a b).natAbs := by rw [Int.natAbs_tmod]; exact Nat.mod_le _ _
      have h3 : Int.tdiv (num a b) (sv c false) * sv c false = num a b - Int.tmod (num a b) (sv c false) := by omega
      rw [h3, wrap_in (num a b - Int.tmod (num a b) (sv c false)) (by omega) (by omega), wrap_in _ (by omega) (by omega)]; omega
    by_cases h1 : Int.tdiv (num a b) (sv c false) < -32768
    · simp only [h1, if_true, true_or]
    · by_cases h2 : Int.tdiv (num a b) (sv c false) > 32767
      · simp only [h1, h2, if_true, if_false, or_true]
      · simp only [h1, h2, if_false, or_self, hm]
end Go.Proofs.YtfeflghimnbhiaaDoor.Wd
