/- Opening an argument that is a unit, or an extent. No condition. -/
import Derived.Test.YtmlhdepemeodkaaCells
import Derived.ProofKit
import Derived.OpenShut
import Derived.WideShapes
namespace Go.Proofs.Ytmlhdepemeodkaa.A
open Go Go.RowKit
theorem ts27 : Try.prog.cellTypes Try.prog.depth 27 = some ((List.range 67).map fun i => if i % 4 = 0 then 4 else 3) := by kernel_rfl
theorem cells27 : Try.prog.cellsOf 27 = 67 := by kernel_rfl
theorem ts29 : Try.prog.cellTypes Try.prog.depth 29 = some [3, 3] := by kernel_rfl
theorem cells29 : Try.prog.cellsOf 29 = 2 := by kernel_rfl
def wfI (n : Int) : Prop := -9223372036854775808 ≤ n ∧ n ≤ 9223372036854775807
theorem cell_int {W : World} {r : Reach} {base : Nat} {v : Value} (h : Cell.okWide Try.prog W r base 3 v) : ∃ n, v = .int .i64 n ∧ wfI n := by
  unfold Cell.okWide at h
  rw [Try.underlying3] at h
  have h' : Cell.ok Try.prog W r base 3 v := by cases v <;> exact h
  unfold Cell.ok at h'
  rw [Try.underlying3] at h'
  cases v <;> simp at h'
  obtain ⟨rfl, hn⟩ := h'
  refine ⟨_, rfl, ?_⟩
  simpa [IntKind.has, IntKind.min, IntKind.max, IntKind.bits, IntKind.signed, wfI] using hn
theorem cell_bool {W : World} {r : Reach} {base : Nat} {v : Value} (h : Cell.okWide Try.prog W r base 4 v) : ∃ b, v = .bool b := by
  unfold Cell.okWide at h
  rw [Try.underlying4] at h
  have h' : Cell.ok Try.prog W r base 4 v := by cases v <;> exact h
  unfold Cell.ok at h'
  rw [Try.underlying4] at h'
  cases v <;> simp at h'
  exact ⟨_, rfl⟩
def unitOf (cs : Array Value) : Ar := ⟨fun j => (match cs[j]? with | some (.int _ n) => n | _ => 0), fun j => (match cs[j]? with | some (.bool b) => b | _ => false)⟩
theorem open_unit {W : World} {r : Reach} {base : Nat} {v : Value} (h : Value.okWide Try.prog W r base 27 v) : ∃ u : Ar, v = .agg (arr 67 0 u) := by
  unfold Value.okWide at h
  rw [Try.underlying27] at h
  obtain ⟨cs, rfl, hs, ts, hts, _, hc⟩ := h
  rw [cells27] at hs
  rw [ts27] at hts
  obtain rfl := Option.some.inj hts
  refine ⟨unitOf cs, congrArg Value.agg (arr_ext hs fun i hi => ?_)⟩
  have hv : cs[i]? = some cs[i] := Array.getElem?_eq_getElem (by omega)
  obtain ⟨u, hu, hk⟩ := hc i _ hv
  rw [List.length_map, List.length_range, Nat.mod_eq_of_lt hi, List.getElem?_map, List.getElem?_range hi] at hu
  have hu : (if i % 4 = 0 then 4 else 3) = u := Option.some.inj hu
  unfold cv unitOf
  by_cases e : i % 4 = 0
  · rw [if_pos e] at hu; subst hu
    obtain ⟨b, hb⟩ := cell_bool hk
    rw [if_pos (by omega)]; simp only [hv, hb]
  · rw [if_neg e] at hu; subst hu
    obtain ⟨n, hn, _⟩ := cell_int hk
    rw [if_neg (by omega)]; simp only [hv, hn]
theorem open_extent {W : World} {r : Reach} {base : Nat} {v : Value} (h : Value.okWide Try.prog W r base 29 v) : ∃ s c : Int, v = .agg #[.int .i64 s, .int .i64 c] := by
  unfold Value.okWide at h
  rw [Try.underlying29] at h
  obtain ⟨cs, rfl, hs, ts, hts, _, hc⟩ := h
  rw [cells29] at hs
  rw [ts29] at hts
  obtain rfl := Option.some.inj hts
  have key : ∀ i, i < 2 → ∃ n, cs[i]? = some (.int .i64 n) := fun i hi => by
    have hv : cs[i]? = some cs[i] := Array.getElem?_eq_getElem (by omega)
    obtain ⟨u, hu, hk⟩ := hc i _ hv
    have e : u = 3 := by
      rcases (show i = 0 ∨ i = 1 by omega) with rfl | rfl
      · exact (Option.some.inj hu).symm
      · exact (Option.some.inj hu).symm
    subst e
    obtain ⟨n, hn, _⟩ := cell_int hk
    exact ⟨n, by rw [hv, hn]⟩
  obtain ⟨s, h0⟩ := key 0 (by decide)
  obtain ⟨c, h1⟩ := key 1 (by decide)
  refine ⟨s, c, congrArg Value.agg ?_⟩
  apply Array.ext_getElem?; intro j
  match j with
  | 0 => rw [h0]; rfl
  | 1 => rw [h1]; rfl
  | j + 2 => rw [Array.getElem?_eq_none (by omega), Array.getElem?_eq_none (by show 2 ≤ _; omega)]
end Go.Proofs.Ytmlhdepemeodkaa.A
