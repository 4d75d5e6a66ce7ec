/- The plain law of PartsPipes: the printed function answers true. Numbers, strings and lists alone, no memory. Conditions: none beyond the statement's guards. -/
import Derived.Test.YtmlhdepemeodkaaAx5
import Derived.Lib.Strings
import Derived.Test.YtmlhdepemeodkaaBits
namespace Go.Proofs.Ytmlhdepemeodkaa.Pipes
set_option linter.unusedSimpArgs false
set_option linter.unusedVariables false
open Go.RowKit Go.Proofs.Ytmlhdepemeodkaa.A Go.Proofs.Ytmlhdepemeodkaa.Bits Go.Proofs.YtmlhdepemeodkaaW.PrintMore Go.Proofs.YtmlhdepemeodkaaW.PrintWords

theorem tl_len (s : ByteArray) : s.toList.length = s.size := by rw [ByteArray.toList_eq, Array.length_toList]; rfl
theorem tl_nil (s : ByteArray) : s.toList = [] ↔ s.size = 0 := by rw [← tl_len]; exact List.length_eq_zero_iff.symm
theorem tl_ext (s : ByteArray) (a b : Nat) : (s.extract a b).toList = (s.toList.drop a).take (b - a) := by rw [Lib.extract_toList, ByteArray.toList_eq]
theorem tl_app (a b : ByteArray) : (a ++ b).toList = a.toList ++ b.toList := by
  rw [ByteArray.toList_eq, ByteArray.toList_eq, ByteArray.toList_eq, ByteArray.data_append, Array.toList_append]
theorem wrap_in (n : Int) (h0 : -9223372036854775808 ≤ n) (h1 : n ≤ 9223372036854775807) : wrap64 n = n := by unfold wrap64; omega
def E : ByteArray := (⟨#[]⟩ : ByteArray)
theorem E_nil : E.toList = [] := by rw [ByteArray.toList_eq]; rfl
def readP (d : ByteArray) (n m a : Int) : ByteArray × Int × Int × ByteArray × Int :=
  if a < 0 then (E, 0, 0, E, 1) else if n = 0 then (E, 0, 0, E, 18) else if 0 < a ∧ d.toList = [] ∧ 0 < m then (E, 0, 0, E, 20)
  else (d.extract (mn a d.size).toNat d.size, n, m, d.extract 0 (mn a d.size).toNat, 0)
theorem mn_le (a b : Int) : mn a b ≤ a ∧ mn a b ≤ b ∧ (mn a b = a ∨ mn a b = b) := by unfold mn; split <;> omega
theorem read_v (d : ByteArray) (n m a : Int) : pipe_Read.f d n m a = some (readP d n m a) := by
  have h1 := mn_le a d.size
  unfold pipe_Read.f readP E
  by_cases ha : a < 0
  · simp only [ha, if_true]
  · have h2 : 0 ≤ mn a d.size := by omega
    simp only [ha, if_false, h1, h2, if_true]
    repeat' split
    all_goals first | rfl | (exfalso; simp_all; done) | (exfalso; omega)
theorem write_c (D S : ByteArray) (hD : D.size ≤ 64) :
    (∃ n : Nat, n ≤ S.size ∧ pipe_Write.f D 1 1 S = some (D ++ S.extract 0 n, 1, 1, (n : Int), 0) ∧ (D ++ S.extract 0 n).size ≤ 64) ∨ pipe_Write.f D 1 1 S = some (E, 0, 0, 0, 20) := by
  have hsz : ∀ n, n ≤ S.size → (D ++ S.extract 0 n).size = D.size + n := fun n hn => by
    rw [← tl_len, tl_app, List.length_append, tl_len, tl_ext, List.length_take, List.length_drop, tl_len]; omega
  unfold pipe_Write.f
  rw [if_pos hD, if_neg (by decide), if_neg (by decide)]
  by_cases h1 : S.toList = ([] : List UInt8)
  · rw [if_pos h1]
    have h0 := (tl_nil S).1 h1
    exact .inl ⟨S.size, Nat.le_refl _, rfl, by rw [hsz _ (Nat.le_refl _)]; omega⟩
  · rw [if_neg h1]
    by_cases h2 : D.size = 64
    · rw [if_pos h2]; exact .inr rfl
    · rw [if_neg h2]
      by_cases h3 : S.size + D.size ≤ 64
      · rw [if_pos h3]; exact .inl ⟨S.size, Nat.le_refl _, rfl, by rw [hsz _ (Nat.le_refl _)]; omega⟩
      · rw [if_neg h3]
        have e : (64 : Int) - (D.size : Int) = ((64 - D.size : Nat) : Int) := by omega
        refine .inl ⟨64 - D.size, by omega, by rw [e], by rw [hsz _ (by omega)]; omega⟩
theorem close_v (D : ByteArray) : pipe_Close.f D 1 1 true = some (D, 1, 0, 0) := by
  unfold pipe_Close.f
  rw [if_pos rfl, if_neg (by decide), if_neg (by decide), wrap_in (1 - 1) (by decide) (by decide)]; rfl
theorem awake_all (k : Nat) : emulatortop_awake.f k = some true := (show emulatortop_awake.f k = emulatortop_awake.f 3 from rfl).trans alive_K
theorem and31 (x : Int) : Go.bits .and .i64 x 31 = x % 32 := and_mask x 5 (by decide)

def Inv (x0 out D : ByteArray) (p : Nat) : Prop := out.toList ++ D.toList = x0.toList.take p ∧ p ≤ x0.size ∧ D.size ≤ 64
theorem Inv.out {x0 out D : ByteArray} {p : Nat} (h : Inv x0 out D p) : out.size ≤ x0.size := by
  have := congrArg List.length h.1
  rw [List.length_append, tl_len, tl_len, List.length_take, tl_len] at this
  omega
theorem fin (x0 : ByteArray) (l : List Int) (hx : x0.size ≤ 300) (out D : ByteArray) (p : Nat) (hI : Inv x0 out D p) (k : Nat) :
    emulatortop_PartsPipes.l0 (k + 1) x0 l out (p : Int) (l.length : Int) D 1 1 = some true := by
  have hm := mn_le 64 D.size
  have hD := hI.2.2
  have hm1 : mn 64 (D.size : Int) = (D.size : Int) := by omega
  have r1 : readP D 1 0 64 = (D.extract D.size D.size, 1, 0, D.extract 0 D.size, 0) := by
    unfold readP
    rw [if_neg (by decide), if_neg (by decide), if_neg (by omega), hm1]; rfl
  have r2 : readP (D.extract D.size D.size) 1 0 5 = ((D.extract D.size D.size).extract (mn 5 (D.extract D.size D.size).size).toNat (D.extract D.size D.size).size, 1, 0, (D.extract D.size D.size).extract 0 (mn 5 (D.extract D.size D.size).size).toNat, 0) := by
    unfold readP
    rw [if_neg (by decide), if_neg (by decide), if_neg (by omega)]
  have hu : ((D.extract D.size D.size).extract 0 (mn 5 (D.extract D.size D.size).size).toNat).toList = [] := by
    rw [tl_ext, tl_ext, Nat.sub_self, List.take_zero, List.drop_nil, List.take_nil]
  have ht : (D.extract 0 D.size).toList = D.toList := by rw [tl_ext, List.drop_zero, List.take_of_length_le (by rw [tl_len]; omega)]
  have hts : (D.extract 0 D.size).size = D.size := by rw [← tl_len, ht, tl_len]
  have ho := hI.out
  rw [emulatortop_PartsPipes.l0, if_neg (by omega), close_v]
  simp only [Option.bind_some]
  rw [read_v]; simp only [Option.bind_some]
  rw [r1]; dsimp only
  rw [read_v]; simp only [Option.bind_some]
  rw [r2]; dsimp only
  simp only [if_true]
  rw [if_pos hu, if_pos (by rw [hts]; omega), if_pos (by omega), if_pos (by have := hI.2.1; omega), if_pos (by
    rw [tl_app, ht, hI.1, tl_ext]; simp), awake_all]
  rfl
theorem round3 (x0 : ByteArray) (l : List Int) (hx : x0.size ≤ 300) (i : Nat) (hi : i < l.length) (hl : l.length ≤ 40) (k : Nat)
    (ih : ∀ (out D : ByteArray) (p : Nat), Inv x0 out D p → emulatortop_PartsPipes.l0 k x0 l out (p : Int) ((i + 1 : Nat) : Int) D 1 1 = some true)
    (out D : ByteArray) (p : Nat) (hI : Inv x0 out D p) : emulatortop_PartsPipes.j3 (k + 1) x0 l out (p : Int) (i : Int) D 1 1 = some true := by
  have ho := hI.out
  have hw : wrap64 ((i : Int) + 1) = ((i + 1 : Nat) : Int) := by rw [wrap_in _ (by omega) (by omega)]; omega
  rw [emulatortop_PartsPipes.j3, if_pos (by omega), if_pos (by omega), and31, read_v]
  simp only [Option.bind_some]
  generalize hn : rd l (i : Int) % 32 = n
  have hn0 : 0 ≤ n ∧ n ≤ 31 := by omega
  by_cases c : 0 < n ∧ D.toList = [] ∧ (0 : Int) < 1
  · have e : readP D 1 1 n = (E, 0, 0, E, 20) := by unfold readP; rw [if_neg (by omega), if_neg (by decide), if_pos c]
    rw [e]; dsimp only
    rw [if_neg (by decide), if_pos rfl, hw]
    exact ih out D p hI
  · have e : readP D 1 1 n = (D.extract (mn n D.size).toNat D.size, 1, 1, D.extract 0 (mn n D.size).toNat, 0) := by unfold readP; rw [if_neg (by omega), if_neg (by decide), if_neg c]
    rw [e]; dsimp only
    have hm := mn_le n D.size
    generalize hq : (mn n (D.size : Int)).toNat = q
    have hq1 : q ≤ D.size := by omega
    have hs : (D.extract 0 q).size ≤ D.size := by rw [← tl_len, tl_ext, List.length_take, List.length_drop, tl_len]; omega
    have hd : (D.extract q D.size).size ≤ 64 := by
      have := hI.2.2
      rw [← tl_len, tl_ext, List.length_take, List.length_drop, tl_len]; omega
    rw [if_pos rfl, if_pos (by have := hI.2.2; omega), hw]
    refine ih _ _ _ ⟨?_, hI.2.1, hd⟩
    rw [← hI.1, tl_app, tl_ext, tl_ext, List.append_assoc]
    congr 1
    rw [List.drop_zero, Nat.sub_zero, List.take_of_length_le (l := D.toList.drop q) (by rw [List.length_drop, tl_len]; omega), List.take_append_drop]
theorem loop (x0 : ByteArray) (l : List Int) (hx : x0.size ≤ 300) (hl : l.length ≤ 40) : ∀ (m i : Nat), i + m = l.length → ∀ (out D : ByteArray) (p : Nat), Inv x0 out D p → ∀ (k : Nat),
    emulatortop_PartsPipes.l0 (k + 3 * m + 1) x0 l out (p : Int) (i : Int) D 1 1 = some true
  | 0, i, him, out, D, p, hI, k => by
    obtain rfl : i = l.length := by omega
    exact fin x0 l hx out D p hI k
  | m + 1, i, him, out, D, p, hI, k => by
    have hi : i < l.length := by omega
    have ho := hI.out
    have hp := hI.2.1
    have r3 := round3 x0 l hx i hi hl (k + 3 * m + 1) (fun out D p hI => loop x0 l hx hl m (i + 1) (by omega) out D p hI k)
    rw [show k + 3 * (m + 1) + 1 = (k + 3 * m + 1 + 1 + 1) + 1 by omega, emulatortop_PartsPipes.l0, if_pos (by omega), if_pos (by omega), if_pos (by have := hI.2.1; omega), Int.toNat_natCast]
    have hS : (x0.extract p x0.size).toList = x0.toList.drop p := by rw [tl_ext, List.take_of_length_le (by rw [List.length_drop, tl_len]; omega)]
    have hSs : (x0.extract p x0.size).size = x0.size - p := by rw [← tl_len, hS, List.length_drop, tl_len]
    rcases write_c D (x0.extract p x0.size) hI.2.2 with ⟨n, hn, e, h64⟩ | e
    · rw [hSs] at hn
      rw [e]; simp only [Option.bind_some, if_true]
      rw [if_neg (by omega), wrap_in _ (by omega) (by omega), decide_eq_false (by have := hI.2.1; omega), emulatortop_PartsPipes.j2, if_neg (by decide), if_pos rfl, wrap_in _ (by have := hI.2.1; omega) (by have := hI.2.1; omega)]
      rw [show (p : Int) + (n : Int) = ((p + n : Nat) : Int) by omega]
      refine r3 out _ (p + n) ⟨?_, by have := hI.2.1; omega, h64⟩
      rw [tl_app, ← List.append_assoc, hI.1, tl_ext, hS, List.drop_zero, Nat.sub_zero, List.take_add]
    · rw [e]; simp only [Option.bind_some]
      rw [if_neg (by decide), emulatortop_PartsPipes.j2, if_neg (by decide), if_neg (by decide), if_pos rfl]
      exact r3 out D p hI
theorem start (s : ByteArray) (l : List Int) (b : Bool) (k : Nat) (hb : b = false → s.size ≤ 300 ∧ l.length ≤ 40 ∧ 3 * l.length + 1 ≤ k) : emulatortop_PartsPipes.j0 (k + 1) s l b = some true := by
  rw [emulatortop_PartsPipes.j0]
  cases b
  · obtain ⟨h1, h2, h3⟩ := hb rfl
    obtain ⟨j, rfl⟩ : ∃ j, k = j + 3 * l.length + 1 := ⟨k - 1 - 3 * l.length, by omega⟩
    have := loop s l h1 h2 l.length 0 (by omega) E E 0 ⟨by rw [E_nil, List.take_zero]; rfl, Nat.zero_le _, by decide⟩ j
    rw [if_neg (by decide)]
    unfold pipe_New.f
    simp only [Option.bind_some]
    exact this
  · rw [if_pos rfl, awake_all]; rfl
theorem PartsPipes (s : ByteArray) (l : List Int) : emulatortop_PartsPipes.f (199 + 1) s l = some true := by
  unfold emulatortop_PartsPipes.f
  by_cases h1 : (s.size : Int) > 300
  · rw [if_pos h1]
    exact start s l true 199 (fun h => by cases h)
  · rw [if_neg h1]
    refine start s l _ 199 (fun h => ?_)
    have h2 := of_decide_eq_false h
    omega
end Go.Proofs.Ytmlhdepemeodkaa.Pipes
