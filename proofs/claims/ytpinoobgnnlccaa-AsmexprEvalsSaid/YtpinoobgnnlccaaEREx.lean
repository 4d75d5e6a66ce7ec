/- Of the proof of AsmexprEvals: REx, Ax20, Great, Open, OpenRows, OpenSrc. Conditions: those of each theorem. -/
import Derived.Test.YtpinoobgnnlccaaERSpec
import Derived.Test.YtpinoobgnnlccaaEAx19
import Derived.Test.YtpinoobgnnlccaaERTerm
import Derived.Test.YtpinoobgnnlccaaERExp
import Derived.Test.YtpinoobgnnlccaaEAx0
import Derived.ProofKit
import Derived.Deep.Fields
import Derived.Deep.Slices
namespace Go.Proofs.Ytpinoobgnnlccaa.A
open Go Go.RowKit Go.Proofs.YtpinoobgnnlccaaW.PrintWords
set_option linter.unusedSimpArgs false
set_option linter.unusedVariables false
theorem is_f (L : List S38) (S : List S44) (a2 : Int) (a3 : ByteArray) (a4 : Int) (i : Nat) (s : ByteArray) (hs : s.toList ≠ []) : emulatorref26_scope_is.f L S a2 a3 a4 (i : Int) s = some (sIs (symS L i) s.toList) := by
 unfold emulatorref26_scope_is.f symS
 by_cases h : i < L.length
 ·rw [if_pos (by omega), if_pos (by omega)]
  by_cases h4 : (rd_T38 L i).f0 = 4
  ·rw [if_pos h4, if_pos ⟨h, h4⟩]; rfl
  ·rw [if_neg h4, if_neg (fun g => h4 g.2), sIs_nil _ hs]
 ·rw [if_neg (by omega), if_neg (fun g => h g.1), sIs_nil _ hs]
theorem lit_list (l : List UInt8) : (⟨l.toArray⟩ : ByteArray).toList = l := by rw [ByteArray.toList_eq]
theorem is_45 (L : List S38) (S : List S44) (a2 : Int) (a3 : ByteArray) (a4 : Int) (i : Nat) : emulatorref26_scope_is.f L S a2 a3 a4 (i : Int) (⟨#[45]⟩ : ByteArray) = some (sIs (symS L i) [45]) := by
 have h := lit_list [45]
 rw [is_f _ _ _ _ _ _ _ (by rw [h]; simp), h]
theorem is_40 (L : List S38) (S : List S44) (a2 : Int) (a3 : ByteArray) (a4 : Int) (i : Nat) : emulatorref26_scope_is.f L S a2 a3 a4 (i : Int) (⟨#[40]⟩ : ByteArray) = some (sIs (symS L i) [40]) := by
 have h := lit_list [40]
 rw [is_f _ _ _ _ _ _ _ (by rw [h]; simp), h]
theorem is_41 (L : List S38) (S : List S44) (a2 : Int) (a3 : ByteArray) (a4 : Int) (i : Nat) : emulatorref26_scope_is.f L S a2 a3 a4 (i : Int) (⟨#[41]⟩ : ByteArray) = some (sIs (symS L i) [41]) := by
 have h := lit_list [41]
 rw [is_f _ _ _ _ _ _ _ (by rw [h]; simp), h]
theorem rfind_from (s : ByteArray) : ∀ (S : List S44) (i : Int), (findFrom s S i = -1 ∧ S.find? (fun x => x.f0.toList == s.toList) = none) ∨ ∃ (j : Nat) (x : S44), j < S.length ∧ findFrom s S i = i + j ∧ S[j]? = some x ∧ S.find? (fun x => x.f0.toList == s.toList) = some x := by
 intro S
 induction S with
 | nil => intro i; exact .inl ⟨rfl, rfl⟩
 | cons y r ih =>
  intro i
  rw [findFrom, List.find?_cons]
  cases h : (y.f0.toList == s.toList)
  ·rw [if_neg (by simp)]
   rcases ih (i + 1) with ⟨a, b⟩ | ⟨j, x, h1, h2, h3, h4⟩
   ·exact .inl ⟨a, b⟩
   ·exact .inr ⟨j + 1, x, by simp; omega, by rw [h2]; push_cast; omega, by simpa using h3, h4⟩
  ·exact .inr ⟨0, y, by simp, by simp, by simp, rfl⟩
theorem rnamed_f (k : Nat) (S : List S44) (s : ByteArray) (hS : S.length ≤ 1000) : emulatorref26_named.f (k + 1001) s S = some (namedS S s) := by
 unfold emulatorref26_named.f namedS
 rw [rfind_f k S s hS, Option.bind_some]
 rcases rfind_from s S 0 with ⟨a, b⟩ | ⟨j, x, h1, h2, h3, h4⟩
 ·rw [a, b, if_neg (by omega)]
 ·have hr : rd_T44 S (findFrom s S 0) = x := by rw [h2]; unfold rd_T44; simp [List.getD, h3]
  rw [h4, hr, if_pos (by omega), if_pos (by omega), if_pos (by omega)]
  simp only []
  by_cases c1 : x.f1 ≥ 0
  ·by_cases c2 : x.f1 ≤ 3
   ·rw [if_pos c1, if_pos c2, if_pos ⟨c1, c2⟩]; rfl
   ·rw [if_pos c1, if_neg c2, if_neg (fun g => c2 g.2)]
  ·rw [if_neg c1, if_neg (fun g => c1 g.1)]
section
variable {L : List S38} {S : List S44} {a2 : Int} {a3 : ByteArray} {a4 : Int}
theorem ratom_f (D : Int) (k i : Nat) (hS : S.length ≤ 1000) (hL : L.length ≤ 1000) (hi : i < L.length) :
  (if ((rd_T38 L (i : Int)).f0) = 2 then (some (0, (⟨#[]⟩ : ByteArray), Go.bits .and .i64 ((rd_T38 L (i : Int)).f2) 65535, wrap64 ((i : Int) + 1), 0)) else (if ((rd_T38 L (i : Int)).f0) = 1 then (rterm36.j2 D (k + 1100) (i : Int) (((rd_T38 L (i : Int)).f1).toList == ([46] : List UInt8)) L S a2 a3 a4 ((rd_T38 L (i : Int)).f0) ((rd_T38 L (i : Int)).f1) ((rd_T38 L (i : Int)).f2) ((rd_T38 L (i : Int)).f3)) else (rterm36.j2 D (k + 1100) (i : Int) false L S a2 a3 a4 ((rd_T38 L (i : Int)).f0) ((rd_T38 L (i : Int)).f1) ((rd_T38 L (i : Int)).f2) ((rd_T38 L (i : Int)).f3)))) = outR (atomS L S (a2, a3, a4) i) := by
 have hw : wrap64 ((i : Int) + 1) = ((i + 1 : Nat) : Int) := by unfold wrap64; omega
 have hA : atomS L S (a2, a3, a4) i = if (atomT S (a2, a3, a4) (rd_T38 L i)).2 = 0 then ((atomT S (a2, a3, a4) (rd_T38 L i)).1, i + 1, 0) else re 3 := by unfold atomS; rw [if_neg (by omega)]
 rw [hA]
 generalize rd_T38 L (i : Int) = t
 have hj : ∀ b, rterm36.j2 D (k + 1100) (i : Int) b L S a2 a3 a4 t.f0 t.f1 t.f2 t.f3 = if b = true then some (a2, a3, a4, wrap64 ((i : Int) + 1), 0) else if t.f0 = 1 then (if nameS t.f1 = true then some ((namedS S t.f1).1, (namedS S t.f1).2.1, (namedS S t.f1).2.2, wrap64 ((i : Int) + 1), 0) else some (0, (⟨#[]⟩ : ByteArray), 0, 0, 3)) else some (0, (⟨#[]⟩ : ByteArray), 0, 0, 3) := fun b => by
  show rterm36.j2 D ((k + 1099) + 1) _ _ _ _ _ _ _ _ _ _ _ = _
  rw [rterm36.j2, show k + 1099 = (k + 1083) + 16 from rfl, rname_f, Option.bind_some, show k + 1083 + 16 = (k + 98) + 1001 from rfl, rnamed_f _ _ _ hS, Option.bind_some]
 rw [hj, hj, hw]
 unfold atomT sIs
 by_cases c1 : t.f0 = 2
 ·simp [c1, outR, wrp]
 ·by_cases c2 : t.f0 = 1
  ·by_cases c3 : t.f1.toList = [46]
   ·simp [c1, c2, c3, outR]
   ·by_cases c4 : nameS t.f1 = true
    ·simp [c1, c2, c3, c4, outR]
    ·simp [c1, c2, c3, c4, outR, re, v0, ve]
  ·simp [c1, c2, outR, re, v0, ve]
theorem rterm_eq (D : Int) (k i d : Nat) (x2 : Int) (hD : D ≤ x2 + 1) (hok : okS 0 L S a2 a3 a4 (i : Int) x2) (hd : x2 = 16 - (d : Int)) : rterm36.f D (k + 1200) L S a2 a3 a4 (i : Int) x2 = outR (termS L S (a2, a3, a4) d i) := by
 obtain ⟨_, hf, hS, h3, hi0, hi, hx0, hx1, hv⟩ := hok
 have hL : L.length ≤ 1000 := by unfold fits at hf; simp at hf; exact hf.1
 have hi : i ≤ L.length := by omega
 have hV : vS (a2, a3, a4) = true := hv
 have hw : wrap64 ((i : Int) + 1) = ((i + 1 : Nat) : Int) := by unfold wrap64; omega
 have hw2 : wrap64 (x2 + 1) = x2 + 1 := by unfold wrap64; omega
 unfold rterm36.f
 rw [is_45, is_40, Option.bind_some, Option.bind_some]
 have hj0 : ∀ b, rterm36.j0 D (k + 1200) (i : Int) x2 b L S a2 a3 a4 = if b = true then (if x2 ≥ 16 then some (0, (⟨#[]⟩ : ByteArray), 0, 0, 7) else rterm36.j1 D (k + 1199) (i : Int) x2 L S a2 a3 a4) else rterm36.j1 D (k + 1199) (i : Int) x2 L S a2 a3 a4 := fun b => by
  show rterm36.j0 D ((k + 1199) + 1) _ _ _ _ _ _ _ _ = _
  rw [rterm36.j0]
 rw [hj0, hj0]
 have hj1 : rterm36.j1 D (k + 1199) (i : Int) x2 L S a2 a3 a4 = (if sIs (symS L i) [45] = true then ((rtermF D L S a2 a3 a4 ((i + 1 : Nat) : Int) (x2 + 1)).bind fun bt130 => (if bt130.2.2.2.2 = 0 then ((emulatorref26_Sub.f (k + 1198) 0 (⟨#[]⟩ : ByteArray) 0 bt130.1 bt130.2.1 bt130.2.2.1).bind fun bt136 => (some (bt136.1, bt136.2.1, bt136.2.2.1, bt130.2.2.2.1, bt136.2.2.2))) else (some (0, (⟨#[]⟩ : ByteArray), 0, 0, bt130.2.2.2.2)))) else (if sIs (symS L i) [40] = true then ((rexpF D L S a2 a3 a4 ((i + 1 : Nat) : Int) (x2 + 1)).bind fun bt142 => (if bt142.2.2.2.2 = 0 then ((emulatorref26_scope_is.f L S a2 a3 a4 bt142.2.2.2.1 (⟨#[41]⟩ : ByteArray)).bind fun t148 => (if t148 = true then (some (bt142.1, bt142.2.1, bt142.2.2.1, wrap64 (bt142.2.2.2.1 + 1), 0)) else (some (0, (⟨#[]⟩ : ByteArray), 0, 0, 3)))) else (some (0, (⟨#[]⟩ : ByteArray), 0, 0, bt142.2.2.2.2)))) else (if (i : Int) ≥ (L.length : Int) then (some (0, (⟨#[]⟩ : ByteArray), 0, 0, 3)) else (if 0 ≤ (i : Int) then (if (i : Int) < (L.length : Int) then (if ((rd_T38 L (i : Int)).f0) = 2 then (some (0, (⟨#[]⟩ : ByteArray), Go.bits .and .i64 ((rd_T38 L (i : Int)).f2) 65535, ((i + 1 : Nat) : Int), 0)) else (if ((rd_T38 L (i : Int)).f0) = 1 then (rterm36.j2 D (k + 1198) (i : Int) (((rd_T38 L (i : Int)).f1).toList == ([46] : List UInt8)) L S a2 a3 a4 ((rd_T38 L (i : Int)).f0) ((rd_T38 L (i : Int)).f1) ((rd_T38 L (i : Int)).f2) ((rd_T38 L (i : Int)).f3)) else (rterm36.j2 D (k + 1198) (i : Int) false L S a2 a3 a4 ((rd_T38 L (i : Int)).f0) ((rd_T38 L (i : Int)).f1) ((rd_T38 L (i : Int)).f2) ((rd_T38 L (i : Int)).f3)))) else none) else none)))) := by
  show rterm36.j1 D ((k + 1198) + 1) _ _ _ _ _ _ _ = _
  rw [rterm36.j1, is_45, is_40, Option.bind_some, Option.bind_some, hw, hw2]
 have hat : ¬ sIs (symS L i) [45] = true → ¬ sIs (symS L i) [40] = true → rterm36.j1 D (k + 1199) (i : Int) x2 L S a2 a3 a4 = outR (atomS L S (a2, a3, a4) i) := fun n1 n2 => by
  rw [hj1, if_neg n1, if_neg n2]
  by_cases hlt : i < L.length
  ·rw [if_neg (by omega), if_pos (by omega), if_pos (by omega)]
   have := ratom_f (a2 := a2) (a3 := a3) (a4 := a4) D (k + 98) i hS hL hlt
   rw [hw] at this; exact this
  ·rw [if_pos (by omega)]; unfold atomS; rw [if_pos (by omega)]; rfl
 cases d with
 | zero =>
  unfold termS
  by_cases c1 : sIs (symS L i) [45] = true
  ·rw [if_pos c1, if_pos rfl, if_pos (by omega), if_pos c1]; rfl
  ·by_cases c2 : sIs (symS L i) [40] = true
   ·rw [if_neg c1, if_pos c2, if_pos (by omega), if_neg c1, if_pos c2]; rfl
   ·rw [if_neg c1, if_neg c2, hat c1 c2, if_neg c1, if_neg c2]
 | succ d =>
  have hnd : ((16 : Int) - (x2 + 1)).toNat = d := by omega
  have hok1 : ∀ j : Nat, j ≤ L.length → okS D L S a2 a3 a4 (j : Int) (x2 + 1) := fun j hj => ⟨hD, hf, hS, h3, by omega, by omega, by omega, by omega, hv⟩
  unfold termS
  by_cases c1 : sIs (symS L i) [45] = true
  ·obtain ⟨s1, _, _⟩ := sym_at (by simp) c1
   rw [if_pos c1, if_pos rfl, if_neg (by omega), hj1, if_pos c1, if_pos c1]
   unfold rtermF
   rw [if_pos (hok1 (i + 1) (by omega)), hnd, Int.toNat_natCast]
   unfold outR negS
   simp only [Option.bind_some]
   by_cases c2 : (termS L S (a2, a3, a4) d (i + 1)).2.2 = 0
   ·rw [if_pos c2, if_pos c2]
    obtain ⟨t1, t2, t3⟩ := term_ok hV d (i + 1) (by omega) c2
    have hs := rsub_f (k + 1180) v0 (termS L S (a2, a3, a4) d (i + 1)).1
    rw [if_pos ⟨v0_valid, t1⟩] at hs
    rw [show k + 1198 = (k + 1180) + 18 from rfl]
    rw [show emulatorref26_Sub.f (k + 1180 + 18) 0 (⟨#[]⟩ : ByteArray) 0 _ _ _ = _ from hs]
    rfl
   ·rw [if_neg c2, if_neg c2]; rfl
  ·by_cases c2 : sIs (symS L i) [40] = true
   ·obtain ⟨s1, _, _⟩ := sym_at (by simp) c2
    rw [if_neg c1, if_pos c2, if_neg (by omega), hj1, if_neg c1, if_pos c2, if_neg c1, if_pos c2]
    unfold rexpF
    rw [if_pos (hok1 (i + 1) (by omega)), hnd, Int.toNat_natCast]
    unfold outR parS
    simp only [Option.bind_some]
    by_cases c3 : (exprS L (termS L S (a2, a3, a4) d) (i + 1)).2.2 = 0
    ·obtain ⟨t1, t2, t3⟩ := expr_ok (term_ok hV d) (i + 1) (by omega) c3
     rw [if_pos c3, if_pos c3, is_41, Option.bind_some]
     by_cases c4 : sIs (symS L (exprS L (termS L S (a2, a3, a4) d) (i + 1)).2.1) [41] = true
     ·rw [if_pos c4, if_pos c4]
      have hw3 : wrap64 (((exprS L (termS L S (a2, a3, a4) d) (i + 1)).2.1 : Int) + 1) = (((exprS L (termS L S (a2, a3, a4) d) (i + 1)).2.1 + 1 : Nat) : Int) := by unfold wrap64; omega
      rw [hw3]
     ·rw [if_neg c4, if_neg c4]; rfl
    ·rw [if_neg c3, if_neg c3]; rfl
   ·rw [if_neg c1, if_neg c2, hat c1 c2, if_neg c1, if_neg c2]
theorem rloop_eq (D : Int) (d : Nat) (x2 : Int) (hL : L.length ≤ 1000) (hV : vS (a2, a3, a4) = true) (hd : x2 = 16 - (d : Int)) (hok : ∀ j : Nat, j ≤ L.length → okS D L S a2 a3 a4 (j : Int) x2) : ∀ (n k i : Nat) (v : VV), vS v = true → i ≤ L.length → L.length ≤ i + n →
  rexp27.l0 D (k + 2 * n + 1200) (i : Int) x2 L S a2 a3 a4 v.1 v.2.1 v.2.2 = outR (loopS L (termS L S (a2, a3, a4) d) n v i) := by
 have hj1 : ∀ m (i : Nat) b (v : VV), rexp27.j1 D (m + 1) (i : Int) x2 b L S a2 a3 a4 v.1 v.2.1 v.2.2 = if b = true then ((rtermF D L S a2 a3 a4 (wrap64 ((i : Int) + 1)) x2).bind fun bt149 => (if bt149.2.2.2.2 = 0 then (if 0 ≤ (i : Int) then (if (i : Int) < (L.length : Int) then ((emulatorref26_Binary.f m ((rd_T38 L (i : Int)).f1) v.1 v.2.1 v.2.2 bt149.1 bt149.2.1 bt149.2.2.1).bind fun bt156 => (if bt156.2.2.2 = 0 then (rexp27.l0 D m bt149.2.2.2.1 x2 L S a2 a3 a4 bt156.1 bt156.2.1 bt156.2.2.1) else (some (0, (⟨#[]⟩ : ByteArray), 0, 0, bt156.2.2.2)))) else (none)) else (none)) else (some (0, (⟨#[]⟩ : ByteArray), 0, 0, bt149.2.2.2.2)))) else (some (v.1, v.2.1, v.2.2, (i : Int), 0)) := fun m i b v => by
  rw [rexp27.j1]
 intro n
 induction n with
 | zero =>
  intro k i v hv hi hn
  show rexp27.l0 D ((k + 1199) + 1) _ _ _ _ _ _ _ _ _ _ = _
  rw [rexp27.l0, if_neg (by omega), show k + 1199 = (k + 1198) + 1 from rfl, hj1, if_neg (by simp)]
  rfl
 | succ n ih =>
  intro k i v hv hi hn
  have hm : k + 2 * (n + 1) + 1200 = ((k + 2 * n + 1200) + 1) + 1 := by omega
  rw [hm, rexp27.l0]
  unfold loopS
  by_cases c : isOp (symS L i) = true
  ·obtain ⟨o1, o2, o3⟩ := op_at c
   rw [if_pos c, if_pos (by omega), if_pos (by omega), if_pos o2, ← o3, roper_f, Option.bind_some, hj1, if_pos c]
   have hw : wrap64 ((i : Int) + 1) = ((i + 1 : Nat) : Int) := by unfold wrap64; omega
   have hnd : ((16 : Int) - x2).toNat = d := by omega
   unfold rtermF
   rw [hw, if_pos (hok (i + 1) (by omega)), hnd, Int.toNat_natCast]
   unfold outR
   simp only [Option.bind_some]
   by_cases c2 : (termS L S (a2, a3, a4) d (i + 1)).2.2 = 0
   ·obtain ⟨t1, t2, t3⟩ := term_ok hV d (i + 1) (by omega) c2
    rw [if_pos c2, if_pos c2, if_pos (by omega), if_pos (by omega), ← o3, show k + 2 * n + 1200 = (k + 2 * n + 1180) + 20 from rfl, rbin_f]
    have hb : binS (symS L i) v (termS L S (a2, a3, a4) d (i + 1)).1 = opS (symS L i) v (termS L S (a2, a3, a4) d (i + 1)).1 := by unfold binS; rw [if_pos ⟨c, hv, t1⟩]
    rw [hb]
    unfold outV
    simp only [Option.bind_some]
    by_cases c3 : (opS (symS L i) v (termS L S (a2, a3, a4) d (i + 1)).1).2 = 0
    ·rw [if_pos c3, if_pos c3]
     exact ih k _ _ (op_valid hv t1 c3) t3 (by omega)
    ·rw [if_neg c3, if_neg c3]; rfl
   ·rw [if_neg c2, if_neg c2]; rfl
  ·have hf : isOp (symS L i) = false := by simpa using c
   rw [if_neg c]
   by_cases hlt : i < L.length
   ·rw [if_pos (by omega), if_pos (by omega)]
    by_cases h4 : (rd_T38 L (i : Int)).f0 = 4
    ·have o3 : symS L i = (rd_T38 L (i : Int)).f1 := by unfold symS; rw [if_pos ⟨hlt, h4⟩]
     rw [if_pos h4, ← o3, roper_f, Option.bind_some, hj1, if_neg c]; rfl
    ·rw [if_neg h4, hj1, if_neg (by simp)]; rfl
   ·rw [if_neg (by omega), hj1, if_neg (by simp)]; rfl
theorem rexp_eq (D : Int) (k i d : Nat) (x2 : Int) (hok : okS D L S a2 a3 a4 (i : Int) x2) (hd : x2 = 16 - (d : Int)) : rexp27.f D (k + 2 * L.length + 1200) L S a2 a3 a4 (i : Int) x2 = outR (exprS L (termS L S (a2, a3, a4) d) i) := by
 have hok' := hok
 obtain ⟨hD, hf, hS, h3, hi0, hi, hx0, hx1, hv⟩ := hok'
 have hL : L.length ≤ 1000 := by unfold fits at hf; simp at hf; exact hf.1
 have hV : vS (a2, a3, a4) = true := hv
 have hnd : ((16 : Int) - x2).toNat = d := by omega
 unfold rexp27.f rtermF exprS
 rw [if_pos hok, hnd, Int.toNat_natCast]
 unfold outR
 simp only [Option.bind_some]
 by_cases c : (termS L S (a2, a3, a4) d i).2.2 = 0
 ·obtain ⟨t1, t2, t3⟩ := term_ok hV d i (by omega) c
  rw [if_pos c, if_pos c]
  exact rloop_eq D d x2 hL hV hd (fun j hj => ⟨hD, hf, hS, h3, by omega, by omega, hx0, hx1, hv⟩) L.length k _ _ t1 t3 (by omega)
 ·rw [if_neg c, if_neg c]; rfl
end
theorem ref_c : ∀ n : Nat, TermC (17 - (n : Int)) ∧ ExpC (17 - (n : Int)) := by
 intro n
 induction n with
 | zero =>
  refine ⟨?_, ?_⟩
  ·intro A0 c0 L A1 c1 S a2 a3 a4 x1 x2 r1 r2 r3 r4 r5 w _ _ _ _ h
   unfold rtermF at h; rw [if_neg (by rintro ⟨g, _, _, _, _, _, _, g2, _⟩; omega)] at h; cases h
  ·intro A0 c0 L A1 c1 S a2 a3 a4 x1 x2 r1 r2 r3 r4 r5 w _ _ _ _ h
   unfold rexpF at h; rw [if_neg (by rintro ⟨g, _, _, _, _, _, _, g2, _⟩; omega)] at h; cases h
 | succ n ih =>
  have hT : TermC (17 - ((n + 1 : Nat) : Int)) := by
   intro A0 c0 L A1 c1 S a2 a3 a4 x1 x2 r1 r2 r3 r4 r5 w h1 h2 h3 h4 h
   unfold rtermF at h
   by_cases hok : okS (17 - ((n + 1 : Nat) : Int)) L S a2 a3 a4 x1 x2
   ·rw [if_pos hok] at h
    obtain ⟨hD, hf, hS, hs, hi0, hi, hx0, hx1, hv⟩ := hok
    by_cases hge : 17 - (n : Int) ≤ x2
    ·exact ih.1 A0 c0 L A1 c1 S a2 a3 a4 x1 x2 r1 r2 r3 r4 r5 w h1 h2 h3 h4 (by unfold rtermF; rw [if_pos ⟨hge, hf, hS, hs, hi0, hi, hx0, hx1, hv⟩]; exact h)
    ·obtain ⟨i, rfl⟩ := Int.eq_ofNat_of_zero_le hi0
     have e := rterm_eq (L := L) (S := S) (a2 := a2) (a3 := a3) (a4 := a4) (17 - (n : Int)) 0 i (16 - x2).toNat x2 (by omega) ⟨hx0, hf, hS, hs, hi0, hi, hx0, hx1, hv⟩ (by omega)
     exact rterm36.calls (17 - (n : Int)) ih.1 ih.2 (0 + 1200) A0 c0 L A1 c1 S a2 a3 a4 (i : Int) x2 r1 r2 r3 r4 r5 w h1 h2 h3 h4 (e.trans h)
   ·rw [if_neg hok] at h; cases h
  refine ⟨hT, ?_⟩
  intro A0 c0 L A1 c1 S a2 a3 a4 x1 x2 r1 r2 r3 r4 r5 w h1 h2 h3 h4 h
  unfold rexpF at h
  by_cases hok : okS (17 - ((n + 1 : Nat) : Int)) L S a2 a3 a4 x1 x2
  ·rw [if_pos hok] at h
   have hok' := hok
   obtain ⟨hD, hf, hS, hs, hi0, hi, hx0, hx1, hv⟩ := hok'
   obtain ⟨i, rfl⟩ := Int.eq_ofNat_of_zero_le hi0
   have e := rexp_eq (17 - ((n + 1 : Nat) : Int)) 0 i (16 - x2).toNat x2 hok (by omega)
   exact rexp27.calls (17 - ((n + 1 : Nat) : Int)) hT (0 + 2 * L.length + 1200) A0 c0 L A1 c1 S a2 a3 a4 (i : Int) x2 r1 r2 r3 r4 r5 w h1 h2 h3 h4 (e.trans h)
  ·rw [if_neg hok] at h; cases h
def emulatorref26_scope_expression.f (l0_0 : List (S38)) (l0_1 : List (S44)) (a0_2 : Int) (a0_3 : ByteArray) (a0_4 : Int) (a1 : Int) (a2 : Int) : Option (Int × ByteArray × Int × Int × Int) := rexpF 0 l0_0 l0_1 a0_2 a0_3 a0_4 a1 a2
theorem emulatorref26_scope_expression.calls (A0_0 : Option Addr) (c0_0 : Nat) (l0_0 : List (S38)) (A0_1 : Option Addr) (c0_1 : Nat) (l0_1 : List (S44)) (a0_2 : Int) (a0_3 : ByteArray) (a0_4 : Int) (a1 : Int) (a2 : Int) (r1 : Int) (r2 : ByteArray) (r3 : Int) (r4 : Int) (r5 : Int) (w : World) (hr0_0 : Kd.C k38 w A0_0 l0_0.length l0_0) (hc0_0 : l0_0.length ≤ c0_0) (hr0_1 : Kd.C k44 w A0_1 l0_1.length l0_1) (hc0_1 : l0_1.length ≤ c0_1) (h : emulatorref26_scope_expression.f l0_0 l0_1 a0_2 a0_3 a0_4 a1 a2 = some (r1, r2, r3, r4, r5)) :
  Calls Try.prog 27 #[.agg #[.slice A0_0 l0_0.length c0_0, .slice A0_1 l0_1.length c0_1, .int .i64 a0_2, .string a0_3, .int .i64 a0_4], .int .i64 a1, .int .i64 a2] w fun e w' => e = .returned (.tuple #[.agg #[.int .i64 r1, .string r2, .int .i64 r3], .int .i64 r4, .int .i64 r5]) ∧ Below w.heap.size w w' :=
 (ref_c 17).2 A0_0 c0_0 l0_0 A0_1 c0_1 l0_1 a0_2 a0_3 a0_4 a1 a2 r1 r2 r3 r4 r5 w hr0_0 hc0_0 hr0_1 hc0_1 h
end Go.Proofs.Ytpinoobgnnlccaa.A
namespace Go.Proofs.Ytpinoobgnnlccaa.A
open Go.RowKit Go.Proofs.YtpinoobgnnlccaaW.PrintWords Go.Proofs.YtpinoobgnnlccaaW.PrintLast Go.Proofs.YtpinoobgnnlccaaW.PrintMore
attribute [local go_sem] max2_int min2_int max_two min_two max_three min_three max_four min_four
set_option linter.unusedVariables false
set_option linter.unusedSimpArgs false
def emulatorref26_Eval.j0 : Nat → List (S38) → Int → List (S44) → Bool → Int → ByteArray → Int → Option (Int × ByteArray × Int × Int × Int)
 | 0, _, _, _, _, _, _, _ => none
 | k + 1, x0, x1, x2, x26, x218000, x218001, x218002 => if x26 = true then (some (0, (⟨#[]⟩ : ByteArray), 0, 0, 1)) else ((emulatorref26_scope_expression.f x0 x2 x218000 x218001 x218002 x1 0).bind fun bt220 => (if bt220.2.2.2.2 = 0 then (some (bt220.1, bt220.2.1, bt220.2.2.1, bt220.2.2.2.1, 0)) else (some (0, (⟨#[]⟩ : ByteArray), 0, 0, bt220.2.2.2.2))))
def emulatorref26_Eval.f (k : Nat) (l0 : List (S38)) (a1 : Int) (l2 : List (S44)) (a3_0 : Int) (a3_1 : ByteArray) (a3_2 : Int) : Option (Int × ByteArray × Int × Int × Int) := if a1 < 0 then (emulatorref26_Eval.j0 k l0 a1 l2 true a3_0 a3_1 a3_2) else (if a1 > (l0.length : Int) then (emulatorref26_Eval.j0 k l0 a1 l2 true a3_0 a3_1 a3_2) else ((emulatorref26_Valid.f k a3_0 a3_1 a3_2).bind fun t219 => (emulatorref26_Eval.j0 k l0 a1 l2 (!t219) a3_0 a3_1 a3_2)))
set_option maxHeartbeats 8000000 in
set_option maxRecDepth 100000 in
theorem emulatorref26_Eval.calls (k : Nat) (A0 : Option Addr) (c0 : Nat) (l0 : List (S38)) (a1 : Int) (A2 : Option Addr) (c2 : Nat) (l2 : List (S44)) (a3_0 : Int) (a3_1 : ByteArray) (a3_2 : Int) (r1 : Int) (r2 : ByteArray) (r3 : Int) (r4 : Int) (r5 : Int) (w : World) (hr0 : Kd.C k38 w A0 l0.length l0) (hc0 : l0.length ≤ c0) (hr2 : Kd.C k44 w A2 l2.length l2) (hc2 : l2.length ≤ c2) (h : emulatorref26_Eval.f k l0 a1 l2 a3_0 a3_1 a3_2 = some (r1, r2, r3, r4, r5)) :
  Calls Try.prog 12 #[.slice A0 l0.length c0, .int .i64 a1, .slice A2 l2.length c2, .agg #[.int .i64 a3_0, .string a3_1, .int .i64 a3_2]] w fun e w' => e = .returned (.tuple #[.agg #[.int .i64 r1, .string r2, .int .i64 r3], .int .i64 r4, .int .i64 r5]) ∧ Below w.heap.size w w' := by
 have hu24 := Try.underlying24
 have hu58 := Try.underlying58
 have HR0 := Aside0.mk hr0
 have HC0 := Aside0.mk hc0
 clear hr0 hc0
 have HR2 := Aside0.mk hr2
 have HC2 := Aside0.mk hc2
 clear hr2 hc2
 have HB := Aside0.mk (Below.refl w.heap.size w)
 have H : (if a1 < 0 then (emulatorref26_Eval.j0 k l0 a1 l2 true a3_0 a3_1 a3_2) else (if a1 > (l0.length : Int) then (emulatorref26_Eval.j0 k l0 a1 l2 true a3_0 a3_1 a3_2) else ((emulatorref26_Valid.f k a3_0 a3_1 a3_2).bind fun t219 => (emulatorref26_Eval.j0 k l0 a1 l2 (!t219) a3_0 a3_1 a3_2)))) = some (r1, r2, r3, r4, r5) := h
 clear h
 have HC5 := Aside0.mk H
 clear H
 go_enter Try.func12, Try.ntmps12
 go_upto_region 1 with (first | ((with_reducible refine gate_dst (N := 7) rfl ?_); (try (refine gate_guard (by rfl) ?_; dsimp only)); refine box_event ?hg (N := 7) ?hd (cs := #[.int .i64 a3_0, .string a3_1, .int .i64 a3_2]) (t := 24) ?hr ?_; (case hd => rfl); (case hg => rfl); (case hr => first | (go_simp; done) | (go_simp; rfl)); intro gb217 hg w6 hbox hb; have n0_ := Aside0.mk (below_step (by repeat (first|(with_reducible first | exact HB.out | apply below_alloc | apply pw_below_drewN | apply below_drew1) | exact HB.out)) hb); have n1_ := Aside0.mk (hbox); have n2_ := Aside0.mk ((by rw [hg]; exact (below_size (by repeat (first|(with_reducible first | exact HB.out | apply below_alloc | apply pw_below_drewN | apply below_drew1) | exact HB.out))) : w.heap.size ≤ gb217)); have n3_ := n2_; clear HB; have HB := n0_; have BK217 := n1_; have GW217 := n2_; have GE217 := n3_; clear n0_ n1_ n2_ n3_; clear hb hbox hg) | ((with_reducible refine gate_dst (N := 8) rfl ?_); (try (refine gate_guard (by rfl) ?_; dsimp only)); refine box_event ?hg (N := 8) ?hd (cs := #[.int .i64 0, .string (⟨#[]⟩ : ByteArray), .int .i64 0]) (t := 24) ?hr ?_; (case hd => rfl); (case hg => rfl); (case hr => first | (go_simp; done) | (go_simp; rfl)); intro gb218 hg w7 hbox hb; have n0_ := Aside0.mk (blk_below (by (with_reducible repeat(first|apply bN|apply bD)); exact BK217.out) hb); have n1_ := Aside0.mk (below_step (by repeat (first|(with_reducible first | exact HB.out | apply below_alloc | apply pw_below_drewN | apply below_drew1 | refine below_set ?_ GE217.out) | exact HB.out)) hb); have n2_ := Aside0.mk (hbox); have n3_ := Aside0.mk ((by rw [hg]; exact (below_size (by repeat (first|(with_reducible first | exact HB.out | apply below_alloc | apply pw_below_drewN | apply below_drew1 | refine below_set ?_ GE217.out) | exact HB.out))) : w.heap.size ≤ gb218)); have n4_ := n3_; have n5_ := Aside0.mk ((by rw [hg]; exact Nat.ne_of_lt (blk_lt (by (with_reducible repeat(first|apply bN|apply bD)); exact BK217.out)) : gb217 ≠ gb218)); have n6_ := Aside0.mk n5_.out.symm; clear BK217; clear HB; have BK217 := n0_; have HB := n1_; have BK218 := n2_; have GW218 := n3_; have GE218 := n4_; have NB217_218 := n5_; have NB218_217 := n6_; clear n0_ n1_ n2_ n3_ n4_ n5_ n6_; clear hb hbox hg))
 (try simp only [Act.put, List.setIfInBounds_toArray, List.set_cons_zero, List.set_cons_succ])
 go_cut [26] (fun v26 wc => ∃ (kq : Nat) (x26_4 : Bool), v26 = .bool x26_4 ∧ Aside0 (emulatorref26_Eval.j0 kq l0 a1 l2 x26_4 a3_0 a3_1 a3_2 = some (r1, r2, r3, r4, r5)) ∧ Aside0 (kq ≤ k) ∧ Aside0 (wc.heap[gb217]? = some (.cells #[.int .i64 a3_0, .string a3_1, .int .i64 a3_2] 24 (0, 0))) ∧ Aside0 (wc.heap[gb218]? = some (.cells #[.int .i64 0, .string (⟨#[]⟩ : ByteArray), .int .i64 0] 24 (0, 0))) ∧ Aside0 (Below w.heap.size w wc))
 case first =>
  have H := HC5.out
  clear HC5
  by_cases c8 : a1 < 0
  ·rw [if_pos c8] at H
   have c8b0 : decide (a1 < 0) = true := decide_eq_true c8
   clear c8
   (first | rw [c8b0] | (simp only [i64_w, i32_w]; rw [c8b0]) | skip)
   have H' := Aside0.mk H
   clear H
   go_wp2
   go_meet
   case rel => exact ⟨_, (true), (by first | rfl | (simp; done) | (simp [*]; done)), H', ⟨by first | omega | exact Nat.le_refl _⟩, ⟨by (with_reducible repeat(first|apply bN|apply bD)); exact BK217.out⟩, ⟨by (with_reducible repeat(first|apply bN|apply bD)); exact BK218.out⟩, ⟨by repeat (first|(with_reducible first | exact HB.out | apply below_alloc | apply pw_below_drewN | apply below_drew1 | refine below_set ?_ GE217.out | refine below_set ?_ GE218.out) | exact HB.out)⟩⟩
  ·rw [if_neg c8] at H
   have c8b0 : decide (a1 < 0) = false := decide_eq_false c8
   clear c8
   (first | rw [c8b0] | (simp only [i64_w, i32_w]; rw [c8b0]) | skip)
   by_cases c9 : a1 > (l0.length : Int)
   ·rw [if_pos c9] at H
    have c9b0 : decide ((l0.length : Int) < a1) = true := decide_eq_true c9
    clear c9
    have H' := Aside0.mk H
    clear H
    go_wp2
    go_meet
    case rel => exact ⟨_, (true), (by first | rfl | (simp; done) | (simp [*]; done)), H', ⟨by first | omega | exact Nat.le_refl _⟩, ⟨by (with_reducible repeat(first|apply bN|apply bD)); exact BK217.out⟩, ⟨by (with_reducible repeat(first|apply bN|apply bD)); exact BK218.out⟩, ⟨by repeat (first|(with_reducible first | exact HB.out | apply below_alloc | apply pw_below_drewN | apply below_drew1 | refine below_set ?_ GE217.out | refine below_set ?_ GE218.out) | exact HB.out)⟩⟩
   ·rw [if_neg c9] at H
    have c9b0 : decide ((l0.length : Int) < a1) = false := decide_eq_false c9
    clear c9
    replace H := Option.bind_eq_some_iff.mp H
    obtain ⟨t219, A100, H⟩ := H
    replace H : (emulatorref26_Eval.j0 k l0 a1 l2 (!t219) a3_0 a3_1 a3_2) = some (r1, r2, r3, r4, r5) := H
    have A10 := Aside0.mk A100
    clear A100
    have H' := Aside0.mk H
    clear H
    have hnb11 := NB217_218.out
    have hnc11 := NB218_217.out
    have hcz12_0 : w7.cell? ⟨gb217, 0, none⟩ = some (.int .i64 a3_0) := (blk_cell BK217.out 0).trans rfl
    have hcz12_1 : w7.cell? ⟨gb217, 1, none⟩ = some (.string a3_1) := (blk_cell BK217.out 1).trans rfl
    have hcz12_2 : w7.cell? ⟨gb217, 2, none⟩ = some (.int .i64 a3_2) := (blk_cell BK217.out 2).trans rfl
    have hfz12_0 := blk_frozen BK217.out 0
    have hfz12_1 := blk_frozen BK217.out 1
    have hfz12_2 := blk_frozen BK217.out 2
    go_wp2_with (first | (go_at_call 18; (with_reducible refine (emulatorref26_Valid.calls k a3_0 a3_1 a3_2 t219 _ A10.out).mono ?_); rintro e w13 ⟨rfl, hb⟩; have n0_ := Aside0.mk (blk_below (by (with_reducible repeat(first|apply bN|apply bD)); exact BK217.out) hb); have n1_ := Aside0.mk (blk_below (by (with_reducible repeat(first|apply bN|apply bD)); exact BK218.out) hb); have n2_ := Aside0.mk (below_step (by repeat (first|(with_reducible first | exact HB.out | apply below_alloc | apply pw_below_drewN | apply below_drew1 | refine below_set ?_ GE217.out | refine below_set ?_ GE218.out) | exact HB.out)) hb); clear BK217; clear BK218; clear HB; have BK217 := n0_; have BK218 := n1_; have HB := n2_; clear n0_ n1_ n2_; (try clear hb); (try clear hb2); (try clear hk); (try clear hi)))
    go_meet
    case rel => exact ⟨_, (!t219), (by first | rfl | (simp; done) | (simp [*]; done)), H', ⟨by first | omega | exact Nat.le_refl _⟩, ⟨by (with_reducible repeat(first|apply bN|apply bD)); exact BK217.out⟩, ⟨by (with_reducible repeat(first|apply bN|apply bD)); exact BK218.out⟩, ⟨by repeat (first|(with_reducible first | exact HB.out | apply below_alloc | apply pw_below_drewN | apply below_drew1 | refine below_set ?_ GE217.out | refine below_set ?_ GE218.out) | exact HB.out)⟩⟩
 case rest =>
  clear HC5
  try clear c1
  try clear c2
  try clear p2
  try clear c8
  try clear c8b0
  try clear c9
  try clear c9b0
  try clear c11
  try clear c12
  try clear hcz12_0
  try clear hcz12_1
  try clear hcz12_2
  try clear hfz12_0
  try clear hfz12_1
  try clear hfz12_2
  obtain ⟨kq, x26_4, rfl, HA, HJ4, BK217, BK218, HB⟩ := hcut
  cases kq with
  | zero => exact absurd HA.out (by simp [emulatorref26_Eval.j0])
  | succ kj4 =>
   have H := HA.out
   clear HA
   simp only [emulatorref26_Eval.j0] at H
   by_cases c14 : x26_4 = true
   ·subst c14
    have H1 : (some (0, (⟨#[]⟩ : ByteArray), 0, 0, 1)) = some (r1, r2, r3, r4, r5) := by rw [if_pos rfl] at H; exact H
    clear H
    have H := H1
    clear H1
    simp only [Option.some.injEq, Prod.mk.injEq] at H
    obtain ⟨rfl, rfl, rfl, rfl, rfl⟩ := H
    have hnb15 := NB218_217.out
    have hnc15 := NB217_218.out
    have hcz16_0 : wc.cell? ⟨gb218, 0, none⟩ = some (.int .i64 0) := (blk_cell BK218.out 0).trans rfl
    have hcz16_1 : wc.cell? ⟨gb218, 1, none⟩ = some (.string (⟨#[]⟩ : ByteArray)) := (blk_cell BK218.out 1).trans rfl
    have hcz16_2 : wc.cell? ⟨gb218, 2, none⟩ = some (.int .i64 0) := (blk_cell BK218.out 2).trans rfl
    have hfz16_0 := blk_frozen BK218.out 0
    have hfz16_1 := blk_frozen BK218.out 1
    have hfz16_2 := blk_frozen BK218.out 2
    go_wp2
    refine bodyPost_ret (results_ctt rfl _ _ gb218 24 #[.int .i64 0, .string (⟨#[]⟩ : ByteArray), .int .i64 0] (0, 0) _ rfl (by (with_reducible repeat(first|apply bN|apply bD)); refine blk_put (cs := #[.int .i64 0, .string (⟨#[]⟩ : ByteArray), .int .i64 0]) ?_ 2 _ rfl; (with_reducible repeat(first|apply bN|apply bD)); refine blk_put (cs := #[.int .i64 0, .string (⟨#[]⟩ : ByteArray), .int .i64 0]) ?_ 1 _ rfl; (with_reducible repeat(first|apply bN|apply bD)); refine blk_put (cs := #[.int .i64 0, .string (⟨#[]⟩ : ByteArray), .int .i64 0]) ?_ 0 _ rfl; (with_reducible repeat(first|apply bN|apply bD)); exact BK218.out) Try.underlying24 rfl (by kernel_rfl)) rfl ?_
    exact ⟨by first | rfl | (simp [errW_none, errW_some] <;> rfl) | (simp [*, errW_none, errW_some] <;> rfl), by repeat (first|(with_reducible first | exact HB.out | apply below_alloc | apply pw_below_drewN | apply below_drew1 | refine below_set ?_ GE217.out | refine below_set ?_ GE218.out) | exact HB.out)⟩
   ·replace c14 := Bool.eq_false_iff.mpr c14
    subst c14
    have H1 : ((emulatorref26_scope_expression.f l0 l2 a3_0 a3_1 a3_2 a1 0).bind fun bt220 => (if bt220.2.2.2.2 = 0 then (some (bt220.1, bt220.2.1, bt220.2.2.1, bt220.2.2.2.1, 0)) else (some (0, (⟨#[]⟩ : ByteArray), 0, 0, bt220.2.2.2.2)))) = some (r1, r2, r3, r4, r5) := by rw [if_neg (show ¬ (false = true) by decide)] at H; exact H
    clear H
    have H := H1
    clear H1
    replace H := Option.bind_eq_some_iff.mp H
    obtain ⟨⟨t220, t221, t222, t223, t224⟩, A170, H⟩ := H
    replace H : (if t224 = 0 then (some (t220, t221, t222, t223, 0)) else (some (0, (⟨#[]⟩ : ByteArray), 0, 0, t224))) = some (r1, r2, r3, r4, r5) := H
    have A17 := Aside0.mk A170
    clear A170
    by_cases c18 : t224 = 0
    ·rw [if_pos c18] at H
     have c18b0 : (t224 == 0) = true := beq_iff_eq.mpr c18
     have c18b1 : (t224 != 0) = false := bne_eq_false_iff_eq.mpr c18
     clear c18
     simp only [Option.some.injEq, Prod.mk.injEq] at H
     obtain ⟨rfl, rfl, rfl, rfl, rfl⟩ := H
     have hnb19 := NB217_218.out
     have hnc19 := NB218_217.out
     have hcz20_0 : wc.cell? ⟨gb217, 0, none⟩ = some (.int .i64 a3_0) := (blk_cell BK217.out 0).trans rfl
     have hcz20_1 : wc.cell? ⟨gb217, 1, none⟩ = some (.string a3_1) := (blk_cell BK217.out 1).trans rfl
     have hcz20_2 : wc.cell? ⟨gb217, 2, none⟩ = some (.int .i64 a3_2) := (blk_cell BK217.out 2).trans rfl
     have hfz20_0 := blk_frozen BK217.out 0
     have hfz20_1 := blk_frozen BK217.out 1
     have hfz20_2 := blk_frozen BK217.out 2
     go_wp2_with (first | ((with_reducible refine gate_callee (f := 27) rfl ?_); refine goesL_ (some 34) rfl rfl Try.func27 (by kernel_rfl) rfl #[.agg #[.slice A0 l0.length c0, .slice A2 l2.length c2, .int .i64 a3_0, .string a3_1, .int .i64 a3_2], .int .i64 a1, .int .i64 0] rfl (by (try simp only [List.map_toArray, List.map_cons, List.map_nil]); first | done | rfl | (simp only [List.length_drop, List.length_take]; rfl)) ?_; (with_reducible refine (emulatorref26_scope_expression.calls _ _ l0 _ _ l2 a3_0 a3_1 a3_2 a1 0 t220 t221 t222 t223 t224 _ ?side1 ?side2 ?side3 ?side4 A17.out).mono ?_); (case side1 => repeat (first | exact (Kd.C_below HR0.out HB.out)|(with_reducible refine Kd.C_alloc ?_ _)|(with_reducible refine Kd.C_drewN ?_ _)|(with_reducible refine Kd.C_drew ?_))); (case side2 => exact HC0.out); (case side3 => repeat (first | exact (Kd.C_below HR2.out HB.out)|(with_reducible refine Kd.C_alloc ?_ _)|(with_reducible refine Kd.C_drewN ?_ _)|(with_reducible refine Kd.C_drew ?_))); (case side4 => exact HC2.out); rintro e w21 ⟨rfl, hb⟩; refine ⟨_, rfl, ?_⟩; have n0_ := Aside0.mk (blk_below (by (with_reducible repeat(first|apply bN|apply bD)); exact BK217.out) hb); have n1_ := Aside0.mk (blk_below (by (with_reducible repeat(first|apply bN|apply bD)); exact BK218.out) hb); have n2_ := Aside0.mk (below_step (by repeat (first|(with_reducible first | exact HB.out | apply below_alloc | apply pw_below_drewN | apply below_drew1 | refine below_set ?_ GE217.out | refine below_set ?_ GE218.out) | exact HB.out)) hb); clear BK217; clear BK218; clear HB; have BK217 := n0_; have BK218 := n1_; have HB := n2_; clear n0_ n1_ n2_; (try clear hb); (try clear hb2); (try clear hk); (try clear hi)) | ((with_reducible refine gate_dst (N := 11) rfl ?_); (try (refine gate_guard (by rfl) ?_; dsimp only)); refine box_event ?hg (N := 11) ?hd (cs := #[.int .i64 0, .string (⟨#[]⟩ : ByteArray), .int .i64 0]) (t := 24) ?hr ?_; (case hd => rfl); (case hg => rfl); (case hr => first | (go_simp; done) | (go_simp; rfl)); intro gb225 hg w22 hbox hb; have n0_ := Aside0.mk (blk_below (by (with_reducible repeat(first|apply bN|apply bD)); exact BK217.out) hb); have n1_ := Aside0.mk (blk_below (by (with_reducible repeat(first|apply bN|apply bD)); exact BK218.out) hb); have n2_ := Aside0.mk (below_step (by repeat (first|(with_reducible first | exact HB.out | apply below_alloc | apply pw_below_drewN | apply below_drew1 | refine below_set ?_ GE217.out | refine below_set ?_ GE218.out) | exact HB.out)) hb); have n3_ := Aside0.mk (hbox); have n4_ := Aside0.mk ((by rw [hg]; exact (below_size (by repeat (first|(with_reducible first | exact HB.out | apply below_alloc | apply pw_below_drewN | apply below_drew1 | refine below_set ?_ GE217.out | refine below_set ?_ GE218.out) | exact HB.out))) : w.heap.size ≤ gb225)); have n5_ := n4_; have n6_ := Aside0.mk ((by rw [hg]; exact Nat.ne_of_lt (blk_lt (by (with_reducible repeat(first|apply bN|apply bD)); exact BK217.out)) : gb217 ≠ gb225)); have n7_ := Aside0.mk n6_.out.symm; have n8_ := Aside0.mk ((by rw [hg]; exact Nat.ne_of_lt (blk_lt (by (with_reducible repeat(first|apply bN|apply bD)); exact BK218.out)) : gb218 ≠ gb225)); have n9_ := Aside0.mk n8_.out.symm; clear BK217; clear BK218; clear HB; have BK217 := n0_; have BK218 := n1_; have HB := n2_; have BK225 := n3_; have GW225 := n4_; have GE225 := n5_; have NB217_225 := n6_; have NB225_217 := n7_; have NB218_225 := n8_; have NB225_218 := n9_; clear n0_ n1_ n2_ n3_ n4_ n5_ n6_ n7_ n8_ n9_; clear hb hbox hg; have hnb23 := NB225_217.out; have hnc23 := NB217_225.out; have hnb24 := NB225_218.out; have hnc24 := NB218_225.out; have hcz25_0 : w22.cell? ⟨gb225, 0, none⟩ = some (.int .i64 0) := (blk_cell BK225.out 0).trans rfl; have hcz25_1 : w22.cell? ⟨gb225, 1, none⟩ = some (.string (⟨#[]⟩ : ByteArray)) := (blk_cell BK225.out 1).trans rfl; have hcz25_2 : w22.cell? ⟨gb225, 2, none⟩ = some (.int .i64 0) := (blk_cell BK225.out 2).trans rfl; have hfz25_0 := blk_frozen BK225.out 0; have hfz25_1 := blk_frozen BK225.out 1; have hfz25_2 := blk_frozen BK225.out 2; have hcz26_0 : w22.cell? ⟨gb218, 0, none⟩ = some (.int .i64 0) := (blk_cell BK218.out 0).trans rfl; have hcz26_1 : w22.cell? ⟨gb218, 1, none⟩ = some (.string (⟨#[]⟩ : ByteArray)) := (blk_cell BK218.out 1).trans rfl; have hcz26_2 : w22.cell? ⟨gb218, 2, none⟩ = some (.int .i64 0) := (blk_cell BK218.out 2).trans rfl; have hfz26_0 := blk_frozen BK218.out 0; have hfz26_1 := blk_frozen BK218.out 1; have hfz26_2 := blk_frozen BK218.out 2))
     refine bodyPost_ret (results_ctt rfl _ _ gb218 24 #[.int .i64 t220, .string t221, .int .i64 t222] (0, 0) _ rfl (by (with_reducible repeat(first|apply bN|apply bD)); refine blk_put (cs := #[.int .i64 t220, .string t221, .int .i64 0]) ?_ 2 _ rfl; (with_reducible repeat(first|apply bN|apply bD)); refine blk_put (cs := #[.int .i64 t220, .string (⟨#[]⟩ : ByteArray), .int .i64 0]) ?_ 1 _ rfl; (with_reducible repeat(first|apply bN|apply bD)); refine blk_put (cs := #[.int .i64 0, .string (⟨#[]⟩ : ByteArray), .int .i64 0]) ?_ 0 _ rfl; (with_reducible repeat(first|apply bN|apply bD)); refine blk_far ?_ NB218_225.out _; (with_reducible repeat(first|apply bN|apply bD)); refine blk_far ?_ NB218_225.out _; (with_reducible repeat(first|apply bN|apply bD)); refine blk_far ?_ NB218_225.out _; (with_reducible repeat(first|apply bN|apply bD)); exact BK218.out) Try.underlying24 rfl (by kernel_rfl)) rfl ?_
     exact ⟨by first | rfl | (simp [errW_none, errW_some] <;> rfl) | (simp [*, errW_none, errW_some] <;> rfl), by repeat (first|(with_reducible first | exact HB.out | apply below_alloc | apply pw_below_drewN | apply below_drew1 | refine below_set ?_ GE217.out | refine below_set ?_ GE218.out | refine below_set ?_ GE225.out) | exact HB.out)⟩
    ·rw [if_neg c18] at H
     have c18b0 : (t224 == 0) = false := beq_eq_false_iff_ne.mpr c18
     have c18b1 : (t224 != 0) = true := bne_iff_ne.mpr c18
     simp only [Option.some.injEq, Prod.mk.injEq] at H
     obtain ⟨rfl, rfl, rfl, rfl, rfl⟩ := H
     have hnb27 := NB217_218.out
     have hnc27 := NB218_217.out
     have hcz28_0 : wc.cell? ⟨gb217, 0, none⟩ = some (.int .i64 a3_0) := (blk_cell BK217.out 0).trans rfl
     have hcz28_1 : wc.cell? ⟨gb217, 1, none⟩ = some (.string a3_1) := (blk_cell BK217.out 1).trans rfl
     have hcz28_2 : wc.cell? ⟨gb217, 2, none⟩ = some (.int .i64 a3_2) := (blk_cell BK217.out 2).trans rfl
     have hfz28_0 := blk_frozen BK217.out 0
     have hfz28_1 := blk_frozen BK217.out 1
     have hfz28_2 := blk_frozen BK217.out 2
     go_wp2_with (first | ((with_reducible refine gate_callee (f := 27) rfl ?_); refine goesL_ (some 34) rfl rfl Try.func27 (by kernel_rfl) rfl #[.agg #[.slice A0 l0.length c0, .slice A2 l2.length c2, .int .i64 a3_0, .string a3_1, .int .i64 a3_2], .int .i64 a1, .int .i64 0] rfl (by (try simp only [List.map_toArray, List.map_cons, List.map_nil]); first | done | rfl | (simp only [List.length_drop, List.length_take]; rfl)) ?_; (with_reducible refine (emulatorref26_scope_expression.calls _ _ l0 _ _ l2 a3_0 a3_1 a3_2 a1 0 t220 t221 t222 t223 t224 _ ?side1 ?side2 ?side3 ?side4 A17.out).mono ?_); (case side1 => repeat (first | exact (Kd.C_below HR0.out HB.out)|(with_reducible refine Kd.C_alloc ?_ _)|(with_reducible refine Kd.C_drewN ?_ _)|(with_reducible refine Kd.C_drew ?_))); (case side2 => exact HC0.out); (case side3 => repeat (first | exact (Kd.C_below HR2.out HB.out)|(with_reducible refine Kd.C_alloc ?_ _)|(with_reducible refine Kd.C_drewN ?_ _)|(with_reducible refine Kd.C_drew ?_))); (case side4 => exact HC2.out); rintro e w29 ⟨rfl, hb⟩; refine ⟨_, rfl, ?_⟩; have n0_ := Aside0.mk (blk_below (by (with_reducible repeat(first|apply bN|apply bD)); exact BK217.out) hb); have n1_ := Aside0.mk (blk_below (by (with_reducible repeat(first|apply bN|apply bD)); exact BK218.out) hb); have n2_ := Aside0.mk (below_step (by repeat (first|(with_reducible first | exact HB.out | apply below_alloc | apply pw_below_drewN | apply below_drew1 | refine below_set ?_ GE217.out | refine below_set ?_ GE218.out) | exact HB.out)) hb); clear BK217; clear BK218; clear HB; have BK217 := n0_; have BK218 := n1_; have HB := n2_; clear n0_ n1_ n2_; (try clear hb); (try clear hb2); (try clear hk); (try clear hi)) | ((with_reducible refine gate_dst (N := 11) rfl ?_); (try (refine gate_guard (by rfl) ?_; dsimp only)); refine box_event ?hg (N := 11) ?hd (cs := #[.int .i64 0, .string (⟨#[]⟩ : ByteArray), .int .i64 0]) (t := 24) ?hr ?_; (case hd => rfl); (case hg => rfl); (case hr => first | (go_simp; done) | (go_simp; rfl)); intro gb225 hg w30 hbox hb; have n0_ := Aside0.mk (blk_below (by (with_reducible repeat(first|apply bN|apply bD)); exact BK217.out) hb); have n1_ := Aside0.mk (blk_below (by (with_reducible repeat(first|apply bN|apply bD)); exact BK218.out) hb); have n2_ := Aside0.mk (below_step (by repeat (first|(with_reducible first | exact HB.out | apply below_alloc | apply pw_below_drewN | apply below_drew1 | refine below_set ?_ GE217.out | refine below_set ?_ GE218.out) | exact HB.out)) hb); have n3_ := Aside0.mk (hbox); have n4_ := Aside0.mk ((by rw [hg]; exact (below_size (by repeat (first|(with_reducible first | exact HB.out | apply below_alloc | apply pw_below_drewN | apply below_drew1 | refine below_set ?_ GE217.out | refine below_set ?_ GE218.out) | exact HB.out))) : w.heap.size ≤ gb225)); have n5_ := n4_; have n6_ := Aside0.mk ((by rw [hg]; exact Nat.ne_of_lt (blk_lt (by (with_reducible repeat(first|apply bN|apply bD)); exact BK217.out)) : gb217 ≠ gb225)); have n7_ := Aside0.mk n6_.out.symm; have n8_ := Aside0.mk ((by rw [hg]; exact Nat.ne_of_lt (blk_lt (by (with_reducible repeat(first|apply bN|apply bD)); exact BK218.out)) : gb218 ≠ gb225)); have n9_ := Aside0.mk n8_.out.symm; clear BK217; clear BK218; clear HB; have BK217 := n0_; have BK218 := n1_; have HB := n2_; have BK225 := n3_; have GW225 := n4_; have GE225 := n5_; have NB217_225 := n6_; have NB225_217 := n7_; have NB218_225 := n8_; have NB225_218 := n9_; clear n0_ n1_ n2_ n3_ n4_ n5_ n6_ n7_ n8_ n9_; clear hb hbox hg; have hnb31 := NB225_217.out; have hnc31 := NB217_225.out; have hnb32 := NB225_218.out; have hnc32 := NB218_225.out; have hcz33_0 : w30.cell? ⟨gb225, 0, none⟩ = some (.int .i64 0) := (blk_cell BK225.out 0).trans rfl; have hcz33_1 : w30.cell? ⟨gb225, 1, none⟩ = some (.string (⟨#[]⟩ : ByteArray)) := (blk_cell BK225.out 1).trans rfl; have hcz33_2 : w30.cell? ⟨gb225, 2, none⟩ = some (.int .i64 0) := (blk_cell BK225.out 2).trans rfl; have hfz33_0 := blk_frozen BK225.out 0; have hfz33_1 := blk_frozen BK225.out 1; have hfz33_2 := blk_frozen BK225.out 2; have hcz34_0 : w30.cell? ⟨gb218, 0, none⟩ = some (.int .i64 0) := (blk_cell BK218.out 0).trans rfl; have hcz34_1 : w30.cell? ⟨gb218, 1, none⟩ = some (.string (⟨#[]⟩ : ByteArray)) := (blk_cell BK218.out 1).trans rfl; have hcz34_2 : w30.cell? ⟨gb218, 2, none⟩ = some (.int .i64 0) := (blk_cell BK218.out 2).trans rfl; have hfz34_0 := blk_frozen BK218.out 0; have hfz34_1 := blk_frozen BK218.out 1; have hfz34_2 := blk_frozen BK218.out 2))
     refine bodyPost_ret (results_ctt rfl _ _ gb218 24 #[.int .i64 0, .string (⟨#[]⟩ : ByteArray), .int .i64 0] (0, 0) _ rfl (by (with_reducible repeat(first|apply bN|apply bD)); refine blk_put (cs := #[.int .i64 0, .string (⟨#[]⟩ : ByteArray), .int .i64 0]) ?_ 2 _ rfl; (with_reducible repeat(first|apply bN|apply bD)); refine blk_put (cs := #[.int .i64 0, .string (⟨#[]⟩ : ByteArray), .int .i64 0]) ?_ 1 _ rfl; (with_reducible repeat(first|apply bN|apply bD)); refine blk_put (cs := #[.int .i64 0, .string (⟨#[]⟩ : ByteArray), .int .i64 0]) ?_ 0 _ rfl; (with_reducible repeat(first|apply bN|apply bD)); refine blk_far ?_ NB218_225.out _; (with_reducible repeat(first|apply bN|apply bD)); refine blk_far ?_ NB218_225.out _; (with_reducible repeat(first|apply bN|apply bD)); refine blk_far ?_ NB218_225.out _; (with_reducible repeat(first|apply bN|apply bD)); exact BK218.out) Try.underlying24 rfl (by kernel_rfl)) rfl ?_
     exact ⟨by first | rfl | (simp [errW_none, errW_some] <;> rfl) | (simp [*, errW_none, errW_some] <;> rfl), by repeat (first|(with_reducible first | exact HB.out | apply below_alloc | apply pw_below_drewN | apply below_drew1 | refine below_set ?_ GE217.out | refine below_set ?_ GE218.out | refine below_set ?_ GE225.out) | exact HB.out)⟩
end Go.Proofs.Ytpinoobgnnlccaa.A
namespace Go.Proofs.Ytpinoobgnnlccaa.A
open Go Go.RowKit Go.Proofs.YtpinoobgnnlccaaW.PrintWords
set_option linter.unusedSimpArgs false
set_option linter.unusedVariables false
theorem great_s_l (S : List S44) : ∀ (n k i : Nat), i ≤ S.length → i + n = 101 → 2 * n + 3 ≤ k → ∃ g, emulatorref26_GreatSymbols.l0 k S (i : Int) = some g ∧ (g = false → S.length ≤ 100 ∧ ∀ x ∈ S.drop i, x.f0.size ≤ 100) := by
 intro n
 induction n with
 | zero =>
  intro k i hi hn hk
  obtain ⟨k, rfl⟩ : ∃ m, k = m + 1 + 1 := ⟨k - 2, by omega⟩
  have e : emulatorref26_GreatSymbols.l0 (k + 1 + 1) S (i : Int) = some (decide ((S.length : Int) > 100)) := by
   rw [emulatorref26_GreatSymbols.l0]
   by_cases c : (i : Int) < (S.length : Int)
   ·rw [if_pos c, show decide ((i : Int) < 101) = false from by rw [decide_eq_false_iff_not]; omega, emulatorref26_GreatSymbols.j1, if_neg (by decide)]
   ·rw [if_neg c, emulatorref26_GreatSymbols.j1, if_neg (by decide)]
  refine ⟨_, e, fun h => ?_⟩
  rw [decide_eq_false_iff_not] at h
  omega
 | succ n ih =>
  intro k i hi hn hk
  obtain ⟨k, rfl⟩ : ∃ m, k = m + 1 + 1 := ⟨k - 2, by omega⟩
  by_cases c : i < S.length
  ·have hr : rd_T44 S (i : Int) = S[i] := by unfold rd_T44; simp [c]
   have hd : S.drop i = S[i] :: S.drop (i + 1) := List.drop_eq_getElem_cons c
   have hw : wrap64 ((i : Int) + 1) = ((i + 1 : Nat) : Int) := by unfold wrap64; omega
   have e : emulatorref26_GreatSymbols.l0 (k + 1 + 1) S (i : Int) = if (((S[i]).f0.size : Nat) : Int) > 100 then some true else emulatorref26_GreatSymbols.l0 k S ((i + 1 : Nat) : Int) := by
    rw [emulatorref26_GreatSymbols.l0, if_pos (by omega), show decide ((i : Int) < 101) = true from by rw [decide_eq_true_eq]; omega, emulatorref26_GreatSymbols.j1, if_pos rfl, if_pos (by omega), if_pos (by omega), hr, hw]
   by_cases c2 : (((S[i]).f0.size : Nat) : Int) > 100
   ·exact ⟨true, by rw [e, if_pos c2], fun h => by cases h⟩
   ·obtain ⟨g, h1, h2⟩ := ih k (i + 1) (by omega) (by omega) (by omega)
    refine ⟨g, by rw [e, if_neg c2, h1], fun h => ⟨(h2 h).1, fun x hx => ?_⟩⟩
    rw [hd] at hx
    rcases List.mem_cons.mp hx with rfl | hx
    ·omega
    ·exact (h2 h).2 x hx
  ·have e : emulatorref26_GreatSymbols.l0 (k + 1 + 1) S (i : Int) = some (decide ((S.length : Int) > 100)) := by
    rw [emulatorref26_GreatSymbols.l0, if_neg (by omega), emulatorref26_GreatSymbols.j1, if_neg (by decide)]
   refine ⟨_, e, fun h => ⟨by rw [decide_eq_false_iff_not] at h; omega, fun x hx => ?_⟩⟩
   rw [List.drop_eq_nil_of_le (by omega)] at hx; cases hx
theorem great_s (S : List S44) (k : Nat) : ∃ g, emulatorref26_GreatSymbols.f (k + 300) S = some g ∧ (g = false → S.length ≤ 100 ∧ ∀ x ∈ S, x.f0.size ≤ 100) := by
 have := great_s_l S 101 (k + 300) 0 (by omega) (by omega) (by omega)
 unfold emulatorref26_GreatSymbols.f
 simpa using this
theorem great_t_l (S : List S38) : ∀ (n k i : Nat), i ≤ S.length → i + n = 101 → 2 * n + 3 ≤ k → ∃ g, emulatorref26_Great.l0 k S (i : Int) = some g ∧ (g = false → S.length ≤ 100 ∧ ∀ x ∈ S.drop i, x.f1.size ≤ 100) := by
 intro n
 induction n with
 | zero =>
  intro k i hi hn hk
  obtain ⟨k, rfl⟩ : ∃ m, k = m + 1 + 1 := ⟨k - 2, by omega⟩
  have e : emulatorref26_Great.l0 (k + 1 + 1) S (i : Int) = some (decide ((S.length : Int) > 100)) := by
   rw [emulatorref26_Great.l0]
   by_cases c : (i : Int) < (S.length : Int)
   ·rw [if_pos c, show decide ((i : Int) < 101) = false from by rw [decide_eq_false_iff_not]; omega, emulatorref26_Great.j1, if_neg (by decide)]
   ·rw [if_neg c, emulatorref26_Great.j1, if_neg (by decide)]
  refine ⟨_, e, fun h => ?_⟩
  rw [decide_eq_false_iff_not] at h
  omega
 | succ n ih =>
  intro k i hi hn hk
  obtain ⟨k, rfl⟩ : ∃ m, k = m + 1 + 1 := ⟨k - 2, by omega⟩
  by_cases c : i < S.length
  ·have hr : rd_T38 S (i : Int) = S[i] := by unfold rd_T38; simp [c]
   have hd : S.drop i = S[i] :: S.drop (i + 1) := List.drop_eq_getElem_cons c
   have hw : wrap64 ((i : Int) + 1) = ((i + 1 : Nat) : Int) := by unfold wrap64; omega
   have e : emulatorref26_Great.l0 (k + 1 + 1) S (i : Int) = if (((S[i]).f1.size : Nat) : Int) > 100 then some true else emulatorref26_Great.l0 k S ((i + 1 : Nat) : Int) := by
    rw [emulatorref26_Great.l0, if_pos (by omega), show decide ((i : Int) < 101) = true from by rw [decide_eq_true_eq]; omega, emulatorref26_Great.j1, if_pos rfl, if_pos (by omega), if_pos (by omega), hr, hw]
   by_cases c2 : (((S[i]).f1.size : Nat) : Int) > 100
   ·exact ⟨true, by rw [e, if_pos c2], fun h => by cases h⟩
   ·obtain ⟨g, h1, h2⟩ := ih k (i + 1) (by omega) (by omega) (by omega)
    refine ⟨g, by rw [e, if_neg c2, h1], fun h => ⟨(h2 h).1, fun x hx => ?_⟩⟩
    rw [hd] at hx
    rcases List.mem_cons.mp hx with rfl | hx
    ·omega
    ·exact (h2 h).2 x hx
  ·have e : emulatorref26_Great.l0 (k + 1 + 1) S (i : Int) = some (decide ((S.length : Int) > 100)) := by
    rw [emulatorref26_Great.l0, if_neg (by omega), emulatorref26_Great.j1, if_neg (by decide)]
   refine ⟨_, e, fun h => ⟨by rw [decide_eq_false_iff_not] at h; omega, fun x hx => ?_⟩⟩
   rw [List.drop_eq_nil_of_le (by omega)] at hx; cases hx
theorem great_t (S : List S38) (k : Nat) : ∃ g, emulatorref26_Great.f (k + 300) S = some g ∧ (g = false → S.length ≤ 100 ∧ ∀ x ∈ S, x.f1.size ≤ 100) := by
 have := great_t_l S 101 (k + 300) 0 (by omega) (by omega) (by omega)
 unfold emulatorref26_Great.f
 simpa using this
end Go.Proofs.Ytpinoobgnnlccaa.A
namespace Go.Proofs.Ytpinoobgnnlccaa.Open
open Go.ChangeShapes Go.WideShapes Go.Deep
section
variable {α : Type} {l : List α}
theorem len4 (h : l.length = 4) : ∃ a b c d, l = [a, b, c, d] := by
 match l, h with
 | [a, b, c, d], _ => exact ⟨a, b, c, d, rfl⟩
end
end Go.Proofs.Ytpinoobgnnlccaa.Open
namespace Go.Proofs.Ytpinoobgnnlccaa.Open
open Go.ChangeShapes Go.WideShapes Go.Deep
section
variable {H : Type} {enc : TypeId × Value → H} {P : Program} {w : World} {base : Nat} {spare : Nat → Bool} {held : Bool}
theorem open_rows {r : Reach} {b0 : Nat} {t e : TypeId} {fs : Array Field} {v : Value} {d : DataW H} {p : List MemPlace} (ht : P.underlying t = some (.slice e)) (hs : P.underlying e = some (.struct fs)) (hone : oneCellFields P fs = true) (hC : P.cellsOf e = fs.size)
  (hv : Value.okWide P w r b0 t v) (h : DataW.Trod enc P w base spare held t v d p) :
  ∃ (A : Option Addr) (len cap : Nat), v = .slice A len cap ∧ len ≤ cap ∧ cap ≤ maxLen ∧ ∀ i, i < len → ∃ (ad : Addr) (cs : List Value), A = some ad ∧ cs.length = fs.size ∧ (∀ (j : Nat) (u : Value), cs[j]? = some u → w.cell? (ad.add (i * fs.size + j)) = some u) ∧
   ∀ (j : Nat) (f : Field) (c : Value), fs[j]? = some f → cs[j]? = some c → ∃ (n : Nat) (y : DataW H × List MemPlace), DataW.trod enc P w base spare held n f.type [c] = some y := by
 obtain ⟨A, len, cap, rfl⟩ := okWide_slice ht hv
 obtain ⟨fuel, hf⟩ := h
 rcases open_slice ht hf with ⟨hcs, _⟩ | ⟨a, len', cap', m, n, D, Pl, hcs, hb, hl, hm, hmm, _, hi⟩
 ·simp [Value.cells] at hcs
  obtain ⟨rfl, rfl, rfl⟩ := hcs
  exact ⟨none, 0, 0, rfl, Nat.le_refl _, by unfold maxLen; omega, fun i hi => absurd hi (by omega)⟩
 ·simp [Value.cells] at hcs
  obtain ⟨rfl, rfl, rfl⟩ := hcs
  refine ⟨some a, len, cap, rfl, hl, hm, fun i hlt => ?_⟩
  have him : i < m := by rw [hmm]; split <;> omega
  obtain ⟨cs', hc, ht'⟩ := hi i him
  rw [hC] at hc
  obtain ⟨ys, n', _, _, _, hyl, hg⟩ := DataW.trod_struct hs ht'
  obtain ⟨_, hcl, hat⟩ := World.cells?_some hc
  refine ⟨a, cs', rfl, hcl, fun j u hu => ?_, fun j f c hj hcj => ?_⟩
  ·have hjl : j < cs'.length := (List.getElem?_eq_some_iff.1 hu).1
   rw [← Go.Deep.add_add, hat j (by omega)]
   exact hu
  ·obtain ⟨ho, hk⟩ := hone_of hone j f hj
   have hjl : j < cs'.length := (List.getElem?_eq_some_iff.1 hcj).1
   have h1 := hg j f hj
   have hx : j < ys.length := by rw [hyl]; exact (Array.getElem?_eq_some_iff.1 hj).1
   have h2 : (cs'.drop j).take 1 = [c] := by
    rw [List.drop_eq_getElem_cons hjl]
    simp [(List.getElem?_eq_some_iff.1 hcj).2]
   rw [ho, hk, h2, List.getElem?_eq_getElem hx] at h1
   exact ⟨n', _, h1⟩
end
theorem list_of {α : Type} {R : Nat → α → Prop} (n : Nat) (h : ∀ i, i < n → ∃ x, R i x) : ∃ xs : List α, xs.length = n ∧ ∀ i x, xs[i]? = some x → R i x := by
 induction n with
 | zero => exact ⟨[], rfl, fun i x hx => by simp at hx⟩
 | succ n ih =>
  obtain ⟨xs, hl, hx⟩ := ih fun i hi => h i (by omega)
  obtain ⟨y, hy⟩ := h n (by omega)
  refine ⟨xs ++ [y], by simp [hl], fun i x hi => ?_⟩
  by_cases hin : i < n
  ·rw [List.getElem?_append_left (by omega)] at hi
   exact hx i x hi
  ·rw [List.getElem?_append_right (by omega)] at hi
   have : i - xs.length = 0 := by
    have := (List.getElem?_eq_some_iff.1 hi).1
    simp at this; omega
   rw [this] at hi
   have e : i = n := by omega
   subst e
   have : y = x := by simpa using hi
   subst this
   exact hy
end Go.Proofs.Ytpinoobgnnlccaa.Open
namespace Go.Proofs.Ytpinoobgnnlccaa.Open
open Go.ChangeShapes Go.WideShapes Go.Deep
section
variable {H : Type} {enc : TypeId × Value → H} {P : Program} {w : World} {base : Nat} {spare : Nat → Bool} {held : Bool}
theorem open_rows_t {n0 : Nat} {t e : TypeId} {fs : Array Field} {c : Value} {y0 : DataW H × List MemPlace} (ht : P.underlying t = some (.slice e)) (hs : P.underlying e = some (.struct fs)) (hone : oneCellFields P fs = true) (hC : P.cellsOf e = fs.size)
  (hf : DataW.trod enc P w base spare held n0 t [c] = some y0) :
  ∃ (A : Option Addr) (len cap : Nat), c = .slice A len cap ∧ len ≤ cap ∧ cap ≤ maxLen ∧ ∀ i, i < len → ∃ (ad : Addr) (cs : List Value), A = some ad ∧ cs.length = fs.size ∧ (∀ (j : Nat) (u : Value), cs[j]? = some u → w.cell? (ad.add (i * fs.size + j)) = some u) ∧
   ∀ (j : Nat) (f : Field) (c : Value), fs[j]? = some f → cs[j]? = some c → ∃ (n : Nat) (y : DataW H × List MemPlace), DataW.trod enc P w base spare held n f.type [c] = some y := by
 rcases open_slice ht hf with ⟨hcs, _⟩ | ⟨a, len, cap, m, n, D, Pl, hcs, hb, hl, hm, hmm, _, hi⟩
 ·obtain rfl : c = .slice none 0 0 := by simpa using hcs
  exact ⟨none, 0, 0, rfl, Nat.le_refl _, by unfold maxLen; omega, fun i hi => absurd hi (by omega)⟩
 ·obtain rfl : c = .slice (some a) len cap := by simpa using hcs
  refine ⟨some a, len, cap, rfl, hl, hm, fun i hlt => ?_⟩
  have him : i < m := by rw [hmm]; split <;> omega
  obtain ⟨cs', hc, ht'⟩ := hi i him
  rw [hC] at hc
  obtain ⟨ys, n', _, _, _, hyl, hg⟩ := DataW.trod_struct hs ht'
  obtain ⟨_, hcl, hat⟩ := World.cells?_some hc
  refine ⟨a, cs', rfl, hcl, fun j u hu => ?_, fun j f c hj hcj => ?_⟩
  ·have hjl : j < cs'.length := (List.getElem?_eq_some_iff.1 hu).1
   rw [← Go.Deep.add_add, hat j (by omega)]
   exact hu
  ·obtain ⟨ho, hk⟩ := hone_of hone j f hj
   have hjl : j < cs'.length := (List.getElem?_eq_some_iff.1 hcj).1
   have h1 := hg j f hj
   have hx : j < ys.length := by rw [hyl]; exact (Array.getElem?_eq_some_iff.1 hj).1
   have h2 : (cs'.drop j).take 1 = [c] := by
    rw [List.drop_eq_getElem_cons hjl]
    simp [(List.getElem?_eq_some_iff.1 hcj).2]
   rw [ho, hk, h2, List.getElem?_eq_getElem hx] at h1
   exact ⟨n', _, h1⟩
theorem open_src {r : Reach} {b0 : Nat} {t : TypeId} {f0 f1 f2 g0 g1 g2 : Field} {v : Value} {d : DataW H} {p : List MemPlace} (hs : P.underlying t = some (.struct #[f0, f1, f2])) (hg : P.underlying f2.type = some (.struct #[g0, g1, g2])) (hC : P.cellsOf t = 5)
  (ho : f0.offset = 0 ∧ f1.offset = 1 ∧ f2.offset = 2) (hk0 : P.cellsOf f0.type = 1) (hk1 : P.cellsOf f1.type = 1) (hk2 : P.cellsOf f2.type = 3) (hone : oneCellFields P #[g0, g1, g2] = true)
  (hv : Value.okWide P w r b0 t v) (h : DataW.Trod enc P w base spare held t v d p) :
  ∃ (c0 c1 c2 c3 c4 : Value) (n m : Nat) (y0 y1 z0 z1 z2 : DataW H × List MemPlace), v = .agg #[c0, c1, c2, c3, c4] ∧ DataW.trod enc P w base spare held n f0.type [c0] = some y0 ∧ DataW.trod enc P w base spare held n f1.type [c1] = some y1 ∧
   DataW.trod enc P w base spare held m g0.type [c2] = some z0 ∧ DataW.trod enc P w base spare held m g1.type [c3] = some z1 ∧ DataW.trod enc P w base spare held m g2.type [c4] = some z2 := by
 obtain ⟨cs, rfl, hsz⟩ := okWide_struct hs hv
 obtain ⟨l⟩ := cs
 obtain ⟨o0, o1, o2⟩ := ho
 match l, hsz.trans hC with
 | [c0, c1, c2, c3, c4], _ =>
  obtain ⟨fuel, hf⟩ := h
  obtain ⟨xs, n, _, hx, _, hlen, hgs⟩ := DataW.trod_struct hs hf
  match xs, hlen with
  | [y0, y1, y2], _ =>
   have e0 := hgs 0 f0 rfl
   have e1 := hgs 1 f1 rfl
   have e2 := hgs 2 f2 rfl
   rw [o0, hk0] at e0
   rw [o1, hk1] at e1
   rw [o2, hk2] at e2
   have e2' : DataW.trod enc P w base spare held n f2.type [c2, c3, c4] = some y2 := by simpa [Value.cells] using e2
   obtain ⟨zs, m, _, _, _, hzl, hgz⟩ := DataW.trod_struct hg e2'
   obtain ⟨p0, q0⟩ := hone_of hone 0 g0 rfl
   obtain ⟨p1, q1⟩ := hone_of hone 1 g1 rfl
   obtain ⟨p2, q2⟩ := hone_of hone 2 g2 rfl
   match zs, hzl with
   | [z0, z1, z2], _ =>
    exact ⟨c0, c1, c2, c3, c4, n, m, y0, y1, z0, z1, z2, rfl, by simpa [Value.cells] using e0, by simpa [Value.cells] using e1, by simpa [Value.cells, p0, q0] using hgz 0 g0 rfl, by simpa [Value.cells, p1, q1] using hgz 1 g1 rfl, by simpa [Value.cells, p2, q2] using hgz 2 g2 rfl⟩
end
end Go.Proofs.Ytpinoobgnnlccaa.Open
