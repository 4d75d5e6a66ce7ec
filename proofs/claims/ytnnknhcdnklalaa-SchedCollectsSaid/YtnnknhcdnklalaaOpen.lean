/- Opening an argument that is a table: its 232 cells are those of eight processes whose numbers are of the type int. No condition. -/
import Derived.Test.YtnnknhcdnklalaaTab
import Derived.ProofKit
import Derived.OpenShut
import Derived.WideShapes
namespace Go.Proofs.Ytnnknhcdnklalaa.A
open Go Go.RowKit
theorem ts29 : Try.prog.cellTypes Try.prog.depth 29 = some ((List.range 232).map fun i => if i % 29 = 15 then 4 else 3) := by kernel_rfl
theorem cells29 : Try.prog.cellsOf 29 = 232 := by kernel_rfl
def wfI (n : Int) : Prop := -9223372036854775808 ≤ n ∧ n ≤ 9223372036854775807
theorem cell_int {W : World} {r : Reach} {base : Nat} {v : Value} (h : Cell.okWide Try.prog W r base 3 v) : ∃ n, v = .int .i64 n ∧ wfI n := by
  unfold Cell.okWide at h
  rw [Try.underlying3] at h
  have h' : Cell.ok Try.prog W r base 3 v := by cases v <;> exact h
  unfold Cell.ok at h'
  rw [Try.underlying3] at h'
  cases v <;> simp at h'
  obtain ⟨rfl, hn⟩ := h'
  refine ⟨_, rfl, ?_⟩
  simpa [IntKind.has, IntKind.min, IntKind.max, IntKind.bits, IntKind.signed, wfI] using hn
theorem cell_bool {W : World} {r : Reach} {base : Nat} {v : Value} (h : Cell.okWide Try.prog W r base 4 v) : ∃ b, v = .bool b := by
  unfold Cell.okWide at h
  rw [Try.underlying4] at h
  have h' : Cell.ok Try.prog W r base 4 v := by cases v <;> exact h
  unfold Cell.ok at h'
  rw [Try.underlying4] at h'
  cases v <;> simp at h'
  exact ⟨_, rfl⟩
def tabOf (cs : Array Value) (k : Nat) : Pr :=
  ⟨fun j => if k < 8 ∧ j < 29 then (match cs[k * 29 + j]? with | some (.int _ n) => n | _ => 0) else 0, (match cs[k * 29 + 15]? with | some (.bool b) => b | _ => false)⟩
theorem open_tab {W : World} {r : Reach} {base : Nat} {v : Value} (h : Value.okWide Try.prog W r base 29 v) : ∃ t : Nat → Pr, v = .agg (tcs t) ∧ ∀ k j, wfI ((t k).f j) := by
  unfold Value.okWide at h
  rw [Try.underlying29] at h
  obtain ⟨cs, rfl, hs, ts, hts, _, hc⟩ := h
  rw [cells29] at hs
  rw [ts29] at hts
  obtain rfl := Option.some.inj hts
  have key : ∀ i, i < 232 → ∃ v, cs[i]? = some v ∧ (i % 29 ≠ 15 → ∃ n, v = .int .i64 n ∧ wfI n) ∧ (i % 29 = 15 → ∃ b, v = .bool b) := fun i hi => by
    have hv : cs[i]? = some cs[i] := Array.getElem?_eq_getElem (by omega)
    obtain ⟨u, hu, hk⟩ := hc i _ hv
    rw [List.length_map, List.length_range, Nat.mod_eq_of_lt hi, List.getElem?_map, List.getElem?_range hi] at hu
    have hu : (if i % 29 = 15 then 4 else 3) = u := Option.some.inj hu
    refine ⟨_, hv, fun hj => ?_, fun hj => ?_⟩
    · rw [if_neg hj] at hu; subst hu; exact cell_int hk
    · rw [if_pos hj] at hu; subst hu; exact cell_bool hk
  have w0 : wfI 0 := by unfold wfI; omega
  refine ⟨tabOf cs, congrArg Value.agg (tcs_ext hs fun k j hk hj => ?_), fun k j => ?_⟩
  · obtain ⟨v, hv, h1, h2⟩ := key (k * 29 + j) (by omega)
    rw [hv]; congr 1
    by_cases e : j = 15
    · subst e
      obtain ⟨b, rfl⟩ := h2 (by omega)
      rw [pc_sw]; unfold tabOf; simp only [hv]
    · obtain ⟨n, rfl, _⟩ := h1 (by omega)
      rw [pc_int _ _ e]; unfold tabOf; simp only [hv]; rw [if_pos ⟨hk, hj⟩]
  · unfold tabOf
    by_cases e : k < 8 ∧ j < 29
    · simp only [if_pos e]
      obtain ⟨v, hv, h1, h2⟩ := key (k * 29 + j) (by omega)
      rw [hv]
      by_cases e1 : (k * 29 + j) % 29 = 15
      · obtain ⟨b, rfl⟩ := h2 e1; exact w0
      · obtain ⟨n, rfl, hn⟩ := h1 e1; exact hn
    · simp only [if_neg e]; exact w0
end Go.Proofs.Ytnnknhcdnklalaa.A
