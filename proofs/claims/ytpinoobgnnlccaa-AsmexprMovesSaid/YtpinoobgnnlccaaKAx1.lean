/- Of the proofs of the laws of emulatorlaw26: Ax1, Bits, ValP. Conditions: those of each theorem. -/
import Derived.Test.YtpinoobgnnlccaaKAx0
import Derived.Laws.BitsLemmas
import Derived.RowKit
-- Written by a program of this session (mp.py) over the kit's print.py, with proofs by hand for what the print does not take.
namespace Go.Proofs.Ytpinoobgnnlccaa.A
open Go.RowKit Go.Proofs.YtpinoobgnnlccaaW.PrintWords Go.Proofs.YtpinoobgnnlccaaW.PrintLast Go.Proofs.YtpinoobgnnlccaaW.PrintMore
attribute [local go_sem] max2_int min2_int max_two min_two max_three min_three max_four min_four   -- for this text's walks alone
set_option linter.unusedVariables false
set_option linter.unusedSimpArgs false
theorem eqA24 (d : Nat) (w : World) (x0 y0 : Int) (x1 y1 : ByteArray) (x2 y2 : Int) :
    (Op.equalIn (d + 2) 24 (.agg #[.int .i64 x0, .string x1, .int .i64 x2]) (.agg #[.int .i64 y0, .string y1, .int .i64 y2])).run Try.prog w = .ok (x0 == y0 && (x1.toList == y1.toList && (x2 == y2))) w := by
  refine eqA_of Try.underlying24 (by kernel_rfl) ?_
  refine eqf_cons (by rfl) (by go_simp; rfl) (by go_simp; rfl) (by go_simp) ?_
  refine eqf_cons (by rfl) (by go_simp; rfl) (by go_simp; rfl) (by go_simp) ?_
  exact eqf_last (by rfl) (by go_simp; rfl) (by go_simp; rfl) (by go_simp)
end Go.Proofs.Ytpinoobgnnlccaa.A

/- Plain facts on the bit operations of int (masks; small numbers), used by the proofs of this seat. No condition. -/
namespace Go.Proofs.Ytpinoobgnnlccaa.Bits
open Go Go.RowKit
theorem wrap_small (n : Int) (h0 : -9223372036854775808 ≤ n) (h1 : n ≤ 9223372036854775807) : IntKind.i64.wrap n = n := by
  rw [IntKind.wrap_i64]; omega
theorem bits_and_def (x y : Int) : Go.bits .and .i64 x y = IntKind.i64.wrap ((BitVec.ofInt 64 x &&& BitVec.ofInt 64 y).toNat : Int) := rfl
theorem bits_or_def (x y : Int) : Go.bits .or .i64 x y = IntKind.i64.wrap ((BitVec.ofInt 64 x ||| BitVec.ofInt 64 y).toNat : Int) := rfl
theorem bits_xor_def (x y : Int) : Go.bits .xor .i64 x y = IntKind.i64.wrap ((BitVec.ofInt 64 x ^^^ BitVec.ofInt 64 y).toNat : Int) := rfl
theorem bits_andNot_def (x y : Int) : Go.bits .andNot .i64 x y = IntKind.i64.wrap ((BitVec.ofInt 64 x &&& ~~~BitVec.ofInt 64 y).toNat : Int) := rfl
theorem ofInt_toNat (x : Int) : (BitVec.ofInt 64 x).toNat = (x % 18446744073709551616).toNat := by
  rw [BitVec.toNat_ofInt]; rfl
theorem and_mask (x : Int) (k : Nat) (hk : k ≤ 63) : Go.bits .and .i64 x (2 ^ k - 1) = x % 2 ^ k := by
  have hlt : 2 ^ k ≤ 2 ^ 63 := Nat.pow_le_pow_right (by decide) hk
  have hpos : 0 < 2 ^ k := Nat.two_pow_pos k
  have hc : ((2 : Int) ^ k - 1) = ((2 ^ k - 1 : Nat) : Int) := by rw [Int.natCast_sub hpos]; simp
  rw [bits_and_def, hc, BitVec.ofInt_natCast, BitVec.toNat_and, ofInt_toNat, BitVec.toNat_ofNat]
  have e : (2 ^ k - 1) % 2 ^ 64 = 2 ^ k - 1 := Nat.mod_eq_of_lt (by omega)
  rw [e, Nat.and_two_pow_sub_one_eq_mod]
  have h0 : 0 ≤ x % 18446744073709551616 := Int.emod_nonneg _ (by decide)
  have hd : (2 : Int) ^ k ∣ 18446744073709551616 := by
    have : (18446744073709551616 : Int) = 2 ^ k * 2 ^ (64 - k) := by
      rw [← Int.pow_add]; rw [show k + (64 - k) = 64 by omega]; rfl
    exact ⟨_, this⟩
  have hp : (0 : Int) < 2 ^ k := by exact_mod_cast hpos
  have e2 : (((x % 18446744073709551616).toNat % 2 ^ k : Nat) : Int) = x % 2 ^ k := by
    rw [Int.natCast_emod, Int.toNat_of_nonneg h0, (by simp : ((2 ^ k : Nat) : Int) = 2 ^ k), Int.emod_emod_of_dvd _ hd]
  rw [e2]
  have h1 : 0 ≤ x % 2 ^ k := Int.emod_nonneg _ (Int.ne_of_gt hp)
  have h2 : x % 2 ^ k < 2 ^ k := Int.emod_lt_of_pos _ hp
  have h3 : (2 : Int) ^ k ≤ 2 ^ 63 := by exact_mod_cast hlt
  exact wrap_small _ (by omega) (by omega)
theorem and65535 (x : Int) : Go.bits .and .i64 x 65535 = x % 65536 := and_mask x 16 (by decide)
theorem and255 (x : Int) : Go.bits .and .i64 x 255 = x % 256 := and_mask x 8 (by decide)
theorem and1 (x : Int) : Go.bits .and .i64 x 1 = x % 2 := and_mask x 1 (by decide)
theorem and63 (x : Int) : Go.bits .and .i64 x 63 = x % 64 := and_mask x 6 (by decide)
theorem and7 (x : Int) : Go.bits .and .i64 x 7 = x % 8 := and_mask x 3 (by decide)
/-- small numbers: as Nat's operations -/
theorem nat_and (a b : Nat) (ha : a < 2 ^ 63) (hb : b < 2 ^ 63) : Go.bits .and .i64 a b = ((a &&& b : Nat) : Int) :=
  (bits_nat .i64 63 (by decide) (fun n h0 h1 => wrap_small n (by omega) (by omega)) a b ha hb).1
theorem nat_or (a b : Nat) (ha : a < 2 ^ 63) (hb : b < 2 ^ 63) : Go.bits .or .i64 a b = ((a ||| b : Nat) : Int) :=
  (bits_nat .i64 63 (by decide) (fun n h0 h1 => wrap_small n (by omega) (by omega)) a b ha hb).2
theorem nat_xor (a b : Nat) (ha : a < 2 ^ 63) (hb : b < 2 ^ 63) : Go.bits .xor .i64 a b = ((a ^^^ b : Nat) : Int) := by
  have hx := Nat.xor_lt_two_pow ha hb
  rw [bits_xor_def, BitVec.ofInt_natCast, BitVec.ofInt_natCast, BitVec.toNat_xor, BitVec.toNat_ofNat, BitVec.toNat_ofNat,
    Nat.mod_eq_of_lt (by omega), Nat.mod_eq_of_lt (by omega)]
  exact wrap_small _ (by omega) (by omega)
theorem ofInt_wrap (v : BitVec 64) : BitVec.ofInt 64 (IntKind.i64.wrap (v.toNat : Int)) = v := by
  rw [IntKind.wrap_i64]
  apply BitVec.eq_of_toNat_eq
  rw [ofInt_toNat]
  have := v.isLt
  omega
end Go.Proofs.Ytpinoobgnnlccaa.Bits

/- Valid values stay valid. -/
namespace Go.Proofs.Ytpinoobgnnlccaa.A
open Go Go.RowKit Go.Proofs.YtpinoobgnnlccaaW.PrintWords
set_option linter.unusedSimpArgs false
set_option linter.unusedVariables false
theorem wrp_eq (n : Int) : wrp n = n % 65536 := Bits.and65535 n
theorem wrp_lo (n : Int) : 0 ≤ wrp n := by rw [wrp_eq]; omega
theorem wrp_hi (n : Int) : wrp n ≤ 65535 := by rw [wrp_eq]; omega
theorem wrp_id (n : Int) (h0 : 0 ≤ n) (h1 : n ≤ 65535) : wrp n = n := by rw [wrp_eq]; omega
abbrev vS (a : VV) : Bool := validS a.1 a.2.1 a.2.2
theorem v_num {a : VV} (h : vS a = true) : 0 ≤ a.1 ∧ a.1 ≤ 4 ∧ 0 ≤ a.2.2 ∧ a.2.2 ≤ 65535 := by
  unfold vS validS at h
  by_cases h1 : a.1 < 0 ∨ 4 < a.1 ∨ a.2.2 < 0 ∨ 65535 < a.2.2
  · rw [if_pos h1] at h; cases h
  · omega
theorem v_txt {a : VV} (h : vS a = true) : if a.1 = 4 then nameS a.2.1 = true else sIs a.2.1 [] = true := by
  have hn := v_num h
  unfold vS validS at h
  rw [if_neg (by omega)] at h
  by_cases h4 : a.1 = 4
  · rw [if_pos h4] at h ⊢; exact h
  · rw [if_neg h4] at h ⊢; exact h
theorem v_mk {c : Int} {s : ByteArray} {n : Int} (h0 : 0 ≤ c) (h1 : c ≤ 4) (h2 : 0 ≤ n) (h3 : n ≤ 65535) (ht : if c = 4 then nameS s = true else sIs s [] = true) : vS (c, s, n) = true := by
  unfold vS validS
  rw [if_neg (by simp only []; omega)]
  by_cases h4 : c = 4
  · rw [if_pos h4] at ht ⊢; exact ht
  · rw [if_neg h4] at ht ⊢; exact ht
theorem v_zero (n : Int) : vS (0, (⟨#[]⟩ : ByteArray), wrp n) = true := v_mk (by omega) (by omega) (wrp_lo n) (wrp_hi n) (by rw [if_neg (by omega)]; unfold sIs; rw [ByteArray.toList_eq]; rfl)
theorem v_num_of {a : VV} (h : vS a = true) (n : Int) : vS (a.1, a.2.1, wrp n) = true := by
  obtain ⟨h1, h2, _, _⟩ := v_num h
  exact v_mk h1 h2 (wrp_lo n) (wrp_hi n) (v_txt h)
theorem add_valid {a b : VV} (ha : vS a = true) (hb : vS b = true) (h : (addS a b).2 = 0) : vS (addS a b).1 = true := by
  unfold addS at h ⊢
  by_cases h1 : b.1 = 0
  · simp only [if_pos h1]; exact v_num_of ha _
  · by_cases h2 : a.1 = 0
    · simp only [if_neg h1, if_pos h2]; exact v_num_of hb _
    · simp only [if_neg h1, if_neg h2, ve] at h; cases h
theorem sub_valid {a b : VV} (ha : vS a = true) (h : (subS a b).2 = 0) : vS (subS a b).1 = true := by
  unfold subS at h ⊢
  by_cases h1 : b.1 = 0
  · simp only [if_pos h1]; exact v_num_of ha _
  · by_cases h2 : a.1 = b.1 ∧ a.1 ≠ 4
    · simp only [if_neg h1, if_pos h2]; exact v_zero _
    · simp only [if_neg h1, if_neg h2, ve] at h; cases h
theorem num_valid {f : Int → Int → Int} {a b : VV} (h : (numS f a b).2 = 0) : vS (numS f a b).1 = true := by
  unfold numS at h ⊢
  by_cases h1 : a.1 ≠ 0 ∨ b.1 ≠ 0
  · simp only [if_pos h1, ve] at h; cases h
  · simp only [if_neg h1]; exact v_zero _
theorem div_valid {a b : VV} (h : (divS a b).2 = 0) : vS (divS a b).1 = true := by
  unfold divS at h ⊢
  by_cases h1 : a.1 = 0 ∧ b.1 = 0 ∧ b.2.2 = 0
  · simp only [if_pos h1, ve] at h; cases h
  · simp only [if_neg h1] at h ⊢; exact num_valid h
theorem op_valid {o : ByteArray} {a b : VV} (ha : vS a = true) (hb : vS b = true) (h : (opS o a b).2 = 0) : vS (opS o a b).1 = true := by
  unfold opS at h ⊢
  by_cases h1 : sIs o [43] = true
  · simp only [if_pos h1] at h ⊢; exact add_valid ha hb h
  by_cases h2 : sIs o [45] = true
  · simp only [if_neg h1, if_pos h2] at h ⊢; exact sub_valid ha h
  by_cases h3 : sIs o [42] = true
  · simp only [if_neg h1, if_neg h2, if_pos h3] at h ⊢; exact num_valid h
  by_cases h4 : sIs o [47] = true
  · simp only [if_neg h1, if_neg h2, if_neg h3, if_pos h4] at h ⊢; exact div_valid h
  by_cases h5 : sIs o [38] = true
  · simp only [if_neg h1, if_neg h2, if_neg h3, if_neg h4, if_pos h5] at h ⊢; exact num_valid h
  · simp only [if_neg h1, if_neg h2, if_neg h3, if_neg h4, if_neg h5] at h ⊢; exact num_valid h
def outV (r : VE) : Option (Int × ByteArray × Int × Int) := some (r.1.1, r.1.2.1, r.1.2.2, r.2)
end Go.Proofs.Ytpinoobgnnlccaa.A
