/- Plain facts on the bit operations of int (masks; small numbers), used by the proofs of this seat. No condition. -/
import Derived.Laws.BitsLemmas
import Derived.RowKit
namespace Go.Proofs.Ytnnknhcdnklalaa.Bits
open Go Go.RowKit

theorem wrap_small (n : Int) (h0 : -9223372036854775808 ≤ n) (h1 : n ≤ 9223372036854775807) : IntKind.i64.wrap n = n := by
  rw [IntKind.wrap_i64]; omega

theorem bits_and_def (x y : Int) : Go.bits .and .i64 x y = IntKind.i64.wrap ((BitVec.ofInt 64 x &&& BitVec.ofInt 64 y).toNat : Int) := rfl
theorem bits_or_def (x y : Int) : Go.bits .or .i64 x y = IntKind.i64.wrap ((BitVec.ofInt 64 x ||| BitVec.ofInt 64 y).toNat : Int) := rfl
theorem bits_xor_def (x y : Int) : Go.bits .xor .i64 x y = IntKind.i64.wrap ((BitVec.ofInt 64 x ^^^ BitVec.ofInt 64 y).toNat : Int) := rfl
theorem bits_andNot_def (x y : Int) : Go.bits .andNot .i64 x y = IntKind.i64.wrap ((BitVec.ofInt 64 x &&& ~~~BitVec.ofInt 64 y).toNat : Int) := rfl

theorem ofInt_toNat (x : Int) : (BitVec.ofInt 64 x).toNat = (x % 18446744073709551616).toNat := by
  rw [BitVec.toNat_ofInt]; rfl

theorem and_mask (x : Int) (k : Nat) (hk : k ≤ 63) : Go.bits .and .i64 x (2 ^ k - 1) = x % 2 ^ k := by
  have hlt : 2 ^ k ≤ 2 ^ 63 := Nat.pow_le_pow_right (by decide) hk
  have hpos : 0 < 2 ^ k := Nat.two_pow_pos k
  have hc : ((2 : Int) ^ k - 1) = ((2 ^ k - 1 : Nat) : Int) := by rw [Int.natCast_sub hpos]; simp
  rw [bits_and_def, hc, BitVec.ofInt_natCast, BitVec.toNat_and, ofInt_toNat, BitVec.toNat_ofNat]
  have e : (2 ^ k - 1) % 2 ^ 64 = 2 ^ k - 1 := Nat.mod_eq_of_lt (by omega)
  rw [e, Nat.and_two_pow_sub_one_eq_mod]
  have h0 : 0 ≤ x % 18446744073709551616 := Int.emod_nonneg _ (by decide)
  have hd : (2 : Int) ^ k ∣ 18446744073709551616 := by
    have : (18446744073709551616 : Int) = 2 ^ k * 2 ^ (64 - k) := by
      rw [← Int.pow_add]; rw [show k + (64 - k) = 64 by omega]; rfl
    exact ⟨_, this⟩
  have hp : (0 : Int) < 2 ^ k := by exact_mod_cast hpos
  have e2 : (((x % 18446744073709551616).toNat % 2 ^ k : Nat) : Int) = x % 2 ^ k := by
    rw [Int.natCast_emod, Int.toNat_of_nonneg h0, (by simp : ((2 ^ k : Nat) : Int) = 2 ^ k), Int.emod_emod_of_dvd _ hd]
  rw [e2]
  have h1 : 0 ≤ x % 2 ^ k := Int.emod_nonneg _ (Int.ne_of_gt hp)
  have h2 : x % 2 ^ k < 2 ^ k := Int.emod_lt_of_pos _ hp
  have h3 : (2 : Int) ^ k ≤ 2 ^ 63 := by exact_mod_cast hlt
  exact wrap_small _ (by omega) (by omega)

theorem and65535 (x : Int) : Go.bits .and .i64 x 65535 = x % 65536 := and_mask x 16 (by decide)
theorem and255 (x : Int) : Go.bits .and .i64 x 255 = x % 256 := and_mask x 8 (by decide)
theorem and1 (x : Int) : Go.bits .and .i64 x 1 = x % 2 := and_mask x 1 (by decide)
theorem and63 (x : Int) : Go.bits .and .i64 x 63 = x % 64 := and_mask x 6 (by decide)
theorem and7 (x : Int) : Go.bits .and .i64 x 7 = x % 8 := and_mask x 3 (by decide)

/-- small numbers: as Nat's operations -/
theorem nat_and (a b : Nat) (ha : a < 2 ^ 63) (hb : b < 2 ^ 63) : Go.bits .and .i64 a b = ((a &&& b : Nat) : Int) :=
  (bits_nat .i64 63 (by decide) (fun n h0 h1 => wrap_small n (by omega) (by omega)) a b ha hb).1
theorem nat_or (a b : Nat) (ha : a < 2 ^ 63) (hb : b < 2 ^ 63) : Go.bits .or .i64 a b = ((a ||| b : Nat) : Int) :=
  (bits_nat .i64 63 (by decide) (fun n h0 h1 => wrap_small n (by omega) (by omega)) a b ha hb).2
theorem nat_xor (a b : Nat) (ha : a < 2 ^ 63) (hb : b < 2 ^ 63) : Go.bits .xor .i64 a b = ((a ^^^ b : Nat) : Int) := by
  have hx := Nat.xor_lt_two_pow ha hb
  rw [bits_xor_def, BitVec.ofInt_natCast, BitVec.ofInt_natCast, BitVec.toNat_xor, BitVec.toNat_ofNat, BitVec.toNat_ofNat,
    Nat.mod_eq_of_lt (by omega), Nat.mod_eq_of_lt (by omega)]
  exact wrap_small _ (by omega) (by omega)
theorem ofInt_wrap (v : BitVec 64) : BitVec.ofInt 64 (IntKind.i64.wrap (v.toNat : Int)) = v := by
  rw [IntKind.wrap_i64]
  apply BitVec.eq_of_toNat_eq
  rw [ofInt_toNat]
  have := v.isLt
  omega
end Go.Proofs.Ytnnknhcdnklalaa.Bits
