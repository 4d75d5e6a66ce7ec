/- More plain facts on the bit operations of int. No condition. -/
import Derived.Test.YtfoimkbpdijmkaaBits
namespace Go.Proofs.Ytfoimkbpdijmkaa.Bits
open Go Go.RowKit

theorem ofInt_wrap (v : BitVec 64) : BitVec.ofInt 64 (IntKind.i64.wrap (v.toNat : Int)) = v := by
  rw [IntKind.wrap_i64]
  apply BitVec.eq_of_toNat_eq
  rw [ofInt_toNat]
  have := v.isLt
  omega
end Go.Proofs.Ytfoimkbpdijmkaa.Bits
