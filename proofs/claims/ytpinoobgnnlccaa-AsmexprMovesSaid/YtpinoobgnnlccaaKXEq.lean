/- Of the proofs of the laws of emulatorlaw26: XEq, RSpec, Ev, AliveK, AliveW, Alv. Conditions: those of each theorem. -/
import Derived.Test.YtpinoobgnnlccaaKAx0
import Derived.Test.YtpinoobgnnlccaaRdTerm
import Derived.Test.YtpinoobgnnlccaaRdExpr
import Derived.Deep.CutBlock
/- The reader's term and expression: their contracts. Conditions: at most 1000 tokens and symbols, texts of at most 1000 bytes. -/
namespace Go.Proofs.Ytpinoobgnnlccaa.A
open Go Go.RowKit Go.Proofs.YtpinoobgnnlccaaW.PrintWords
set_option linter.unusedSimpArgs false
set_option linter.unusedVariables false
theorem sym_f (L : List S38) (S : List S44) (i : Nat) (a : Int) (s : ByteArray) (n : Int) : asmexpr_reader_symbol.f L (i : Int) S a s n = some (symS L i, (i : Int), a, s, n) := by
  unfold asmexpr_reader_symbol.f symS
  by_cases h : i < L.length
  · rw [if_pos (by omega), if_pos (by omega)]
    by_cases h4 : (rd_T38 L i).f0 = 4
    · rw [if_pos h4, if_pos ⟨h, h4⟩]
    · rw [if_neg h4, if_neg (fun g => h4 g.2)]
  · rw [if_neg (by omega), if_neg (fun g => h g.1)]
theorem fits_at {L : List S38} (hf : fits L = true) {i : Nat} (hi : i < L.length) : (rd_T38 L (i : Int)).f1.size ≤ 1000 := by
  unfold fits at hf
  simp only [Bool.and_eq_true, List.all_eq_true, decide_eq_true_eq] at hf
  have hr : rd_T38 L (i : Int) = L[i] := by unfold rd_T38; simp [hi]
  rw [hr]; exact hf.2 _ (List.getElem_mem hi)
theorem fits_len {L : List S38} (hf : fits L = true) : L.length ≤ 1000 := by unfold fits at hf; simp at hf; exact hf.1
section
variable {L : List S38} {S : List S44} {a3 : Int} {s4 : ByteArray} {a5 : Int}
theorem xatom_f (D : Int) (k i : Nat) (hf : fits L = true) (hS : S.length ≤ 1000) (hi : i < L.length) :
    (if ((rd_T38 L (i : Int)).f0) = 2 then ((wrapF ((rd_T38 L (i : Int)).f2)).bind fun t152 => (some (0, (⟨#[]⟩ : ByteArray), t152, 0, wrap64 ((i : Int) + 1), a3, s4, a5))) else (if ((rd_T38 L (i : Int)).f0) = 1 then (rdx34.j0 D (k + 10) (((rd_T38 L (i : Int)).f1).toList == ([46] : List UInt8)) L (wrap64 ((i : Int) + 1)) S a3 s4 a5 ((rd_T38 L (i : Int)).f0) ((rd_T38 L (i : Int)).f1) ((rd_T38 L (i : Int)).f2) ((rd_T38 L (i : Int)).f3)) else (rdx34.j0 D (k + 10) false L (wrap64 ((i : Int) + 1)) S a3 s4 a5 ((rd_T38 L (i : Int)).f0) ((rd_T38 L (i : Int)).f1) ((rd_T38 L (i : Int)).f2) ((rd_T38 L (i : Int)).f3)))) = outX (atomX L S (a3, s4, a5) i) (a3, s4, a5) := by
  have hL := fits_len hf
  have hw : wrap64 ((i : Int) + 1) = ((i + 1 : Nat) : Int) := by unfold wrap64; omega
  have hA : atomX L S (a3, s4, a5) i = ((atomT S (a3, s4, a5) (rd_T38 L i)).1, i + 1, (atomT S (a3, s4, a5) (rd_T38 L i)).2) := by unfold atomX; rw [if_neg (by omega)]
  rw [hA]
  have hsz := fits_at hf hi
  generalize rd_T38 L (i : Int) = t at hsz ⊢
  have hj : ∀ b, rdx34.j0 D (k + 10) b L (wrap64 ((i : Int) + 1)) S a3 s4 a5 t.f0 t.f1 t.f2 t.f3 = if b = true then some (a3, s4, a5, 0, ((i + 1 : Nat) : Int), a3, s4, a5) else if t.f0 = 1 then (if nameS t.f1 = true then some ((namedS S t.f1).1, (namedS S t.f1).2.1, (namedS S t.f1).2.2, 0, ((i + 1 : Nat) : Int), a3, s4, a5) else some (0, (⟨#[]⟩ : ByteArray), 0, 3, ((i + 1 : Nat) : Int), a3, s4, a5)) else some (0, (⟨#[]⟩ : ByteArray), 0, 3, ((i + 1 : Nat) : Int), a3, s4, a5) := fun b => by
    show rdx34.j0 D ((k + 9) + 1) _ _ _ _ _ _ _ _ _ _ _ = _
    rw [rdx34.j0, hw, show k + 9 = (k + 8) + 1 from rfl, name_f _ _ (by omega), Option.bind_some]
    unfold namF
    rw [if_pos hS, Option.bind_some]
  rw [hj, hj, hw]
  unfold atomT sIs wrapF
  by_cases c1 : t.f0 = 2
  · simp [c1, outX]
  · by_cases c2 : t.f0 = 1
    · by_cases c3 : t.f1.toList = [46]
      · simp [c1, c2, c3, outX]
      · by_cases c4 : nameS t.f1 = true
        · simp [c1, c2, c3, c4, outX]
        · simp [c1, c2, c3, c4, outX, v0, ve]
    · simp [c1, c2, outX, v0, ve]
theorem nestT_eq (D : Int) (i d : Nat) (x2 : Int) (hD : D ≤ x2 + 1) (hf : fits L = true) (hS : S.length ≤ 1000) (h3 : s4.size ≤ 1000) (hi : i < L.length) (hd : x2 = 16 - ((d + 1 : Nat) : Int)) (hx : 0 ≤ x2) : nestF (rdT D) L (i : Int) S a3 s4 a5 x2 = outX (termX L S (a3, s4, a5) d (i + 1)) (a3, s4, a5) := by
  have hL := fits_len hf
  have hw : wrap64 ((i : Int) + 1) = ((i + 1 : Nat) : Int) := by unfold wrap64; omega
  have hw2 : wrap64 (x2 + 1) = x2 + 1 := by unfold wrap64; omega
  have hnd : ((16 : Int) - (x2 + 1)).toNat = d := by omega
  unfold nestF rdT
  rw [if_neg (by omega), hw, hw2, if_pos ⟨hD, hf, hS, h3, by omega, by omega, by omega, by omega⟩, hnd, Int.toNat_natCast]
theorem nestE_eq (D : Int) (i d : Nat) (x2 : Int) (hD : D ≤ x2 + 1) (hf : fits L = true) (hS : S.length ≤ 1000) (h3 : s4.size ≤ 1000) (hi : i < L.length) (hd : x2 = 16 - ((d + 1 : Nat) : Int)) (hx : 0 ≤ x2) : nestF (rdE D) L (i : Int) S a3 s4 a5 x2 = outX (exprX L (termX L S (a3, s4, a5) d) (i + 1)) (a3, s4, a5) := by
  have hL := fits_len hf
  have hw : wrap64 ((i : Int) + 1) = ((i + 1 : Nat) : Int) := by unfold wrap64; omega
  have hw2 : wrap64 (x2 + 1) = x2 + 1 := by unfold wrap64; omega
  have hnd : ((16 : Int) - (x2 + 1)).toNat = d := by omega
  unfold nestF rdE
  rw [if_neg (by omega), hw, hw2, if_pos ⟨hD, hf, hS, h3, by omega, by omega, by omega, by omega⟩, hnd, Int.toNat_natCast]
theorem nest_lim (F : List S38 → Int → List S44 → Int → ByteArray → Int → Int → Option (Int × ByteArray × Int × Int × Int × Int × ByteArray × Int)) (i : Nat) : nestF F L (i : Int) S a3 s4 a5 16 = outX (v0, i, 7) (a3, s4, a5) := by
  unfold nestF; rw [if_pos (by omega)]; rfl
/-- what the '-' and the '(' make of a nested result -/
theorem neg_out (r : RR) (h : VV) : ((outX r h).bind fun bt123 => (if bt123.2.2.2.1 = 0 then ((sub3F 0 (⟨#[]⟩ : ByteArray) 0 bt123.1 bt123.2.1 bt123.2.2.1).bind fun bt132 => (some (bt132.1, bt132.2.1, bt132.2.2.1, bt132.2.2.2, bt123.2.2.2.2.1, bt123.2.2.2.2.2.1, bt123.2.2.2.2.2.2.1, bt123.2.2.2.2.2.2.2))) else (some (0, (⟨#[]⟩ : ByteArray), 0, bt123.2.2.2.1, bt123.2.2.2.2.1, bt123.2.2.2.2.2.1, bt123.2.2.2.2.2.2.1, bt123.2.2.2.2.2.2.2)))) = outX (negX r) h := by
  unfold outX negX sub3F
  simp only [Option.bind_some]
  by_cases c : r.2.2 = 0
  · rw [if_pos c, if_pos c]; rfl
  · rw [if_neg c, if_neg c]; rfl
theorem par_out (r : RR) (h : VV) (hL : L.length ≤ 1000) (hr : r.2.1 ≤ L.length) : ((outX r h).bind fun bt136 => (if bt136.2.2.2.1 = 0 then ((asmexpr_reader_symbol.f L bt136.2.2.2.2.1 S bt136.2.2.2.2.2.1 bt136.2.2.2.2.2.2.1 bt136.2.2.2.2.2.2.2).bind fun bt145 => (if bt145.1.toList = ([41] : List UInt8) then (some (bt136.1, bt136.2.1, bt136.2.2.1, 0, wrap64 (bt145.2.1 + 1), bt145.2.2.1, bt145.2.2.2.1, bt145.2.2.2.2)) else (some (0, (⟨#[]⟩ : ByteArray), 0, 3, bt145.2.1, bt145.2.2.1, bt145.2.2.2.1, bt145.2.2.2.2)))) else (some (0, (⟨#[]⟩ : ByteArray), 0, bt136.2.2.2.1, bt136.2.2.2.2.1, bt136.2.2.2.2.2.1, bt136.2.2.2.2.2.2.1, bt136.2.2.2.2.2.2.2)))) = outX (parX L r) h := by
  unfold outX parX sIs
  simp only [Option.bind_some]
  by_cases c : r.2.2 = 0
  · rw [if_pos c, if_pos c, sym_f, Option.bind_some]
    have hw : wrap64 ((r.2.1 : Int) + 1) = ((r.2.1 + 1 : Nat) : Int) := by unfold wrap64; omega
    by_cases c2 : (symS L r.2.1).toList = [41]
    · rw [if_pos c2, if_pos (by simp [c2]), hw]
    · rw [if_neg c2, if_neg (by simpa using c2)]; rfl
  · rw [if_neg c, if_neg c]; rfl
theorem xterm_eq (D : Int) (k i d : Nat) (x2 : Int) (hD : D ≤ x2 + 1) (hf : fits L = true) (hS : S.length ≤ 1000) (h3 : s4.size ≤ 1000) (hi : i ≤ L.length) (hd : x2 = 16 - (d : Int)) (hx : 0 ≤ x2) : rdx34.f D (k + 10) L (i : Int) S a3 s4 a5 x2 = outX (termX L S (a3, s4, a5) d i) (a3, s4, a5) := by
  have hL := fits_len hf
  unfold rdx34.f
  rw [sym_f, Option.bind_some]
  simp only []
  have b1 : ((symS L i).toList = [45]) ↔ sIs (symS L i) [45] = true := by unfold sIs; simp
  have b2 : ((symS L i).toList = [40]) ↔ sIs (symS L i) [40] = true := by unfold sIs; simp
  by_cases c1 : sIs (symS L i) [45] = true
  · obtain ⟨s1, _, _⟩ := sym_at (by simp) c1
    rw [if_pos (b1.mpr c1)]
    cases d with
    | zero =>
      obtain rfl : x2 = 16 := by omega
      rw [nest_lim, neg_out]; unfold termX; rw [if_pos c1]
    | succ d =>
      have e : termX L S (a3, s4, a5) (d + 1) i = negX (termX L S (a3, s4, a5) d (i + 1)) := by rw [termX, if_pos c1]
      rw [nestT_eq D i d x2 hD hf hS h3 s1 hd hx, neg_out, e]
  · by_cases c2 : sIs (symS L i) [40] = true
    · obtain ⟨s1, _, _⟩ := sym_at (by simp) c2
      rw [if_neg (fun g => c1 (b1.mp g)), if_pos (b2.mpr c2)]
      cases d with
      | zero =>
        obtain rfl : x2 = 16 := by omega
        rw [nest_lim, par_out (v0, i, 7) _ hL hi]; unfold termX; rw [if_neg c1, if_pos c2]
      | succ d =>
        have e : termX L S (a3, s4, a5) (d + 1) i = parX L (exprX L (termX L S (a3, s4, a5) d) (i + 1)) := by rw [termX, if_neg c1, if_pos c2]
        rw [nestE_eq D i d x2 hD hf hS h3 s1 hd hx, par_out _ _ hL (exprX_ok (termX_ok d) (i + 1) (by omega)).1, e]
    · rw [if_neg (fun g => c1 (b1.mp g)), if_neg (fun g => c2 (b2.mp g))]
      have ht : termX L S (a3, s4, a5) d i = atomX L S (a3, s4, a5) i := by cases d <;> (unfold termX; rw [if_neg c1, if_neg c2])
      rw [ht]
      by_cases hlt : i < L.length
      · rw [if_neg (by omega), if_pos (by omega), if_pos (by omega)]
        exact xatom_f D k i hf hS hlt
      · rw [if_pos (by omega)]; unfold atomX; rw [if_pos (by omega)]; rfl
theorem xloop_eq (D : Int) (d : Nat) (x2 : Int) (hD : D ≤ x2) (hf : fits L = true) (hS : S.length ≤ 1000) (h3 : s4.size ≤ 1000) (hd : x2 = 16 - (d : Int)) (hx : 0 ≤ x2) : ∀ (n k i : Nat) (v : VV), i ≤ L.length → L.length ≤ i + n →
    rdx26.l0 D (k + n + 2) x2 0 L (i : Int) S a3 s4 a5 v.1 v.2.1 v.2.2 = outX (loopX L (termX L S (a3, s4, a5) d) n v i) (a3, s4, a5) := by
  have hL := fits_len hf
  have hstop : ∀ m (e : Int) (i : Nat) (v : VV), e ≠ 0 → rdx26.l0 D (m + 1) x2 e L (i : Int) S a3 s4 a5 v.1 v.2.1 v.2.2 = outX (v0, i, e) (a3, s4, a5) := fun m e i v he => by
    rw [rdx26.l0, if_neg he]; rfl
  intro n
  induction n with
  | zero =>
    intro k i v hi hn
    have c : isOp (symS L i) = false := by
      cases c : isOp (symS L i)
      · rfl
      · obtain ⟨o1, _, _⟩ := op_at c; omega
    show rdx26.l0 D ((k + 1) + 1) _ _ _ _ _ _ _ _ _ _ _ = _
    rw [rdx26.l0, if_pos rfl, sym_f, Option.bind_some]
    unfold opnF isnF
    rw [Option.bind_some, Option.bind_some, c, if_pos (by decide : (!false) = true)]; rfl
  | succ n ih =>
    intro k i v hi hn
    rw [show k + (n + 1) + 2 = (k + n + 2) + 1 by omega, rdx26.l0, if_pos rfl, sym_f, Option.bind_some]
    unfold opnF isnF loopX
    rw [Option.bind_some, Option.bind_some]
    by_cases c : isOp (symS L i) = true
    · obtain ⟨o1, o2, o3⟩ := op_at c
      have hw : wrap64 ((i : Int) + 1) = ((i + 1 : Nat) : Int) := by unfold wrap64; omega
      have hnd : ((16 : Int) - x2).toNat = d := by omega
      rw [c, if_neg (by decide : ¬ (!true) = true), if_pos rfl]
      unfold rdT
      simp only []
      rw [hw, if_pos ⟨hD, hf, hS, h3, by omega, by omega, by omega, by omega⟩, hnd, Int.toNat_natCast]
      obtain ⟨t1, t2⟩ := termX_ok (L := L) (S := S) (h := (a3, s4, a5)) d (i + 1) (by omega)
      generalize hr : termX L S (a3, s4, a5) d (i + 1) = r at *
      unfold outX opsF
      simp only [Option.bind_some]
      by_cases c2 : r.2.2 = 0
      · rw [if_pos c2, if_pos c2]
        have := t2 c2
        by_cases c3 : (opS (symS L i) v r.1).2 = 0
        · rw [if_pos c3, show (opS (symS L i) (v.1, v.2.1, v.2.2) (r.1.1, r.1.2.1, r.1.2.2)).2 = 0 from c3]
          exact ih k r.2.1 _ t1 (by omega)
        · rw [if_neg c3]
          exact hstop (k + n + 1) _ r.2.1 _ c3
      · rw [if_neg c2, if_neg c2]
        exact hstop (k + n + 1) _ r.2.1 v c2
    · have hf2 : isOp (symS L i) = false := by simpa using c
      rw [hf2, if_pos (by decide : (!false) = true), if_neg (by decide : ¬ false = true)]; rfl
theorem xexpr_eq (D : Int) (k i d : Nat) (x2 : Int) (hD : D ≤ x2) (hf : fits L = true) (hS : S.length ≤ 1000) (h3 : s4.size ≤ 1000) (hi : i ≤ L.length) (hd : x2 = 16 - (d : Int)) (hx : 0 ≤ x2) : rdx26.f D (k + L.length + 2) L (i : Int) S a3 s4 a5 x2 = outX (exprX L (termX L S (a3, s4, a5) d) i) (a3, s4, a5) := by
  have hnd : ((16 : Int) - x2).toNat = d := by omega
  unfold rdx26.f rdT exprX
  rw [if_pos ⟨hD, hf, hS, h3, by omega, by omega, by omega, by omega⟩, hnd, Int.toNat_natCast]
  obtain ⟨t1, t2⟩ := termX_ok (L := L) (S := S) (h := (a3, s4, a5)) d i hi
  generalize termX L S (a3, s4, a5) d i = r at *
  unfold outX
  simp only [Option.bind_some]
  by_cases c : r.2.2 = 0
  · rw [if_pos c, c]
    exact xloop_eq D d x2 hD hf hS h3 hd hx L.length k r.2.1 r.1 t1 (by omega)
  · rw [if_neg c, show k + L.length + 2 = (k + L.length + 1) + 1 from rfl, rdx26.l0, if_neg c]; rfl
end
theorem rd_c : ∀ n : Nat, RdC 34 (rdT (17 - (n : Int))) ∧ RdC 26 (rdE (17 - (n : Int))) := by
  intro n
  induction n with
  | zero =>
    refine ⟨?_, ?_⟩
    · intro g L s1 S a3 s4 a5 x2 r1 r2 r3 r4 r5 r6 r7 r8 w0 w _ _ h
      unfold rdT at h; rw [if_neg (by rintro ⟨g, _, _, _, _, _, _, g2⟩; omega)] at h; cases h
    · intro g L s1 S a3 s4 a5 x2 r1 r2 r3 r4 r5 r6 r7 r8 w0 w _ _ h
      unfold rdE at h; rw [if_neg (by rintro ⟨g, _, _, _, _, _, _, g2⟩; omega)] at h; cases h
  | succ n ih =>
    have hT : RdC 34 (rdT (17 - ((n + 1 : Nat) : Int))) := by
      intro g L s1 S a3 s4 a5 x2 r1 r2 r3 r4 r5 r6 r7 r8 w0 w hI hB h
      unfold rdT at h
      by_cases hok : okX (17 - ((n + 1 : Nat) : Int)) L S s4 s1 x2
      · rw [if_pos hok] at h
        obtain ⟨hD, hf, hS, hs, hi0, hi, hx0, hx1⟩ := hok
        obtain ⟨i, rfl⟩ := Int.eq_ofNat_of_zero_le hi0
        have e := xterm_eq (L := L) (S := S) (a3 := a3) (s4 := s4) (a5 := a5) (17 - (n : Int)) 0 i (16 - x2).toNat x2 (by omega) hf hS hs (by omega) (by omega) hx0
        exact rdx34.calls (17 - (n : Int)) (nest34_c _ ih.1) (nest26_c _ ih.2) (0 + 10) g L (i : Int) S a3 s4 a5 x2 r1 r2 r3 r4 r5 r6 r7 r8 w0 w hI hB (e.trans h)
      · rw [if_neg hok] at h; cases h
    refine ⟨hT, ?_⟩
    intro g L s1 S a3 s4 a5 x2 r1 r2 r3 r4 r5 r6 r7 r8 w0 w hI hB h
    unfold rdE at h
    by_cases hok : okX (17 - ((n + 1 : Nat) : Int)) L S s4 s1 x2
    · rw [if_pos hok] at h
      obtain ⟨hD, hf, hS, hs, hi0, hi, hx0, hx1⟩ := hok
      obtain ⟨i, rfl⟩ := Int.eq_ofNat_of_zero_le hi0
      have e := xexpr_eq (L := L) (S := S) (a3 := a3) (s4 := s4) (a5 := a5) (17 - ((n + 1 : Nat) : Int)) 0 i (16 - x2).toNat x2 hD hf hS hs (by omega) (by omega) hx0
      exact rdx26.calls (17 - ((n + 1 : Nat) : Int)) hT (0 + L.length + 2) g L (i : Int) S a3 s4 a5 x2 r1 r2 r3 r4 r5 r6 r7 r8 w0 w hI hB (e.trans h)
    · rw [if_neg hok] at h; cases h
end Go.Proofs.Ytpinoobgnnlccaa.A

/- What the reference's term and expression say, as the printed texts ask for it. -/
namespace Go.Proofs.Ytpinoobgnnlccaa.A
open Go Go.RowKit Go.Proofs.YtpinoobgnnlccaaW.PrintWords
set_option linter.unusedVariables false
abbrev okS (D : Int) (l0 : List S38) (l1 : List S44) (a2 : Int) (a3 : ByteArray) (a4 : Int) (x1 x2 : Int) : Prop := D ≤ x2 ∧ fits l0 = true ∧ l1.length ≤ 1000 ∧ a3.size ≤ 1000 ∧ 0 ≤ x1 ∧ x1 ≤ l0.length ∧ 0 ≤ x2 ∧ x2 ≤ 16 ∧ validS a2 a3 a4 = true
def outR (r : RR) : Option (Int × ByteArray × Int × Int × Int) := some (r.1.1, r.1.2.1, r.1.2.2, (r.2.1 : Int), r.2.2)
def rtermF (D : Int) (l0 : List S38) (l1 : List S44) (a2 : Int) (a3 : ByteArray) (a4 : Int) (x1 x2 : Int) : Option (Int × ByteArray × Int × Int × Int) :=
  if okS D l0 l1 a2 a3 a4 x1 x2 then outR (termS l0 l1 (a2, a3, a4) (16 - x2).toNat x1.toNat) else none
def rexpF (D : Int) (l0 : List S38) (l1 : List S44) (a2 : Int) (a3 : ByteArray) (a4 : Int) (x1 x2 : Int) : Option (Int × ByteArray × Int × Int × Int) :=
  if okS D l0 l1 a2 a3 a4 x1 x2 then outR (exprS l0 (termS l0 l1 (a2, a3, a4) (16 - x2).toNat) x1.toNat) else none
/-- The contract of term, from depth D on. -/
abbrev TermC (D : Int) : Prop := ∀ (A0_0 : Option Addr) (c0_0 : Nat) (l0_0 : List (S38)) (A0_1 : Option Addr) (c0_1 : Nat) (l0_1 : List (S44)) (a0_2 : Int) (a0_3 : ByteArray) (a0_4 : Int) (a1 : Int) (a2 : Int) (r1 : Int) (r2 : ByteArray) (r3 : Int) (r4 : Int) (r5 : Int) (w : World) (hr0_0 : Kd.C k38 w A0_0 l0_0.length l0_0) (hc0_0 : l0_0.length ≤ c0_0) (hr0_1 : Kd.C k44 w A0_1 l0_1.length l0_1) (hc0_1 : l0_1.length ≤ c0_1) (h : rtermF D l0_0 l0_1 a0_2 a0_3 a0_4 a1 a2 = some (r1, r2, r3, r4, r5)),
    Calls Try.prog 36 #[.agg #[.slice A0_0 l0_0.length c0_0, .slice A0_1 l0_1.length c0_1, .int .i64 a0_2, .string a0_3, .int .i64 a0_4], .int .i64 a1, .int .i64 a2] w fun e w' => e = .returned (.tuple #[.agg #[.int .i64 r1, .string r2, .int .i64 r3], .int .i64 r4, .int .i64 r5]) ∧ Below w.heap.size w w'
/-- The contract of expression, from depth D on. -/
abbrev ExpC (D : Int) : Prop := ∀ (A0_0 : Option Addr) (c0_0 : Nat) (l0_0 : List (S38)) (A0_1 : Option Addr) (c0_1 : Nat) (l0_1 : List (S44)) (a0_2 : Int) (a0_3 : ByteArray) (a0_4 : Int) (a1 : Int) (a2 : Int) (r1 : Int) (r2 : ByteArray) (r3 : Int) (r4 : Int) (r5 : Int) (w : World) (hr0_0 : Kd.C k38 w A0_0 l0_0.length l0_0) (hc0_0 : l0_0.length ≤ c0_0) (hr0_1 : Kd.C k44 w A0_1 l0_1.length l0_1) (hc0_1 : l0_1.length ≤ c0_1) (h : rexpF D l0_0 l0_1 a0_2 a0_3 a0_4 a1 a2 = some (r1, r2, r3, r4, r5)),
    Calls Try.prog 27 #[.agg #[.slice A0_0 l0_0.length c0_0, .slice A0_1 l0_1.length c0_1, .int .i64 a0_2, .string a0_3, .int .i64 a0_4], .int .i64 a1, .int .i64 a2] w fun e w' => e = .returned (.tuple #[.agg #[.int .i64 r1, .string r2, .int .i64 r3], .int .i64 r4, .int .i64 r5]) ∧ Below w.heap.size w w'
end Go.Proofs.Ytpinoobgnnlccaa.A

/- Eval: what it gives. Conditions: at most 1000 tokens and symbols, texts of at most 1000 bytes. -/
namespace Go.Proofs.Ytpinoobgnnlccaa.A
open Go Go.RowKit Go.Proofs.YtpinoobgnnlccaaW.PrintWords
set_option linter.unusedSimpArgs false
set_option linter.unusedVariables false
theorem loop_err (L : List S38) (tm : Nat → RR) : ∀ n v i, (loopS L tm n v i).2.2 ≠ 0 → loopS L tm n v i = re (loopS L tm n v i).2.2 := by
  intro n
  induction n with
  | zero => intro v i h; exact absurd rfl h
  | succ n ih =>
    intro v i h
    unfold loopS at h ⊢
    by_cases c : isOp (symS L i) = true
    · rw [if_pos c] at h ⊢
      by_cases c2 : (tm (i + 1)).2.2 = 0
      · rw [if_pos c2] at h ⊢
        by_cases c3 : (opS (symS L i) v (tm (i + 1)).1).2 = 0
        · rw [if_pos c3] at h ⊢; exact ih _ _ h
        · rw [if_neg c3]; rfl
      · rw [if_neg c2]; rfl
    · rw [if_neg c] at h; exact absurd rfl h
theorem expr_err (L : List S38) (tm : Nat → RR) (i : Nat) (h : (exprS L tm i).2.2 ≠ 0) : exprS L tm i = re (exprS L tm i).2.2 := by
  unfold exprS at h ⊢
  by_cases c : (tm i).2.2 = 0
  · rw [if_pos c] at h ⊢; exact loop_err L tm _ _ _ h
  · rw [if_neg c]; rfl
def asmexpr_Eval.f (l0 : List (S38)) (a1 : Int) (l2 : List (S44)) (a3_0 : Int) (a3_1 : ByteArray) (a3_2 : Int) : Option (Int × ByteArray × Int × Int × Int) :=
  if fits l0 = true ∧ l2.length ≤ 1000 ∧ a3_1.size ≤ 1000 then outR (evalS l0 l2 (a3_0, a3_1, a3_2) a1) else none
theorem asmexpr_Eval.calls (A0 : Option Addr) (c0 : Nat) (l0 : List (S38)) (a1 : Int) (A2 : Option Addr) (c2 : Nat) (l2 : List (S44)) (a3_0 : Int) (a3_1 : ByteArray) (a3_2 : Int) (r1 : Int) (r2 : ByteArray) (r3 : Int) (r4 : Int) (r5 : Int) (w : World) (hr0 : Kd.C k38 w A0 l0.length l0) (hc0 : l0.length ≤ c0) (hr2 : Kd.C k44 w A2 l2.length l2) (hc2 : l2.length ≤ c2) (h : asmexpr_Eval.f l0 a1 l2 a3_0 a3_1 a3_2 = some (r1, r2, r3, r4, r5)) :
    Calls Try.prog 11 #[.slice A0 l0.length c0, .int .i64 a1, .slice A2 l2.length c2, .agg #[.int .i64 a3_0, .string a3_1, .int .i64 a3_2]] w fun e w' => e = .returned (.tuple #[.agg #[.int .i64 r1, .string r2, .int .i64 r3], .int .i64 r4, .int .i64 r5]) ∧ Below w.heap.size w w' := by
  unfold asmexpr_Eval.f at h
  by_cases hc : fits l0 = true ∧ l2.length ≤ 1000 ∧ a3_1.size ≤ 1000
  · rw [if_pos hc] at h
    obtain ⟨hf, hS, hs⟩ := hc
    unfold evalS at h
    by_cases hbad : a1 < 0 ∨ (l0.length : Int) < a1 ∨ validS a3_0 a3_1 a3_2 = false
    · rw [if_pos hbad] at h
      unfold outR re v0 at h
      simp only [Option.some.injEq, Prod.mk.injEq] at h
      obtain ⟨rfl, rfl, rfl, rfl, rfl⟩ := h
      by_cases h1 : a1 < 0 ∨ (l0.length : Int) < a1
      · exact ev_a A0 c0 l0 a1 A2 c2 l2 a3_0 a3_1 a3_2 w h1
      · have hv : validS a3_0 a3_1 a3_2 = false := by
          rcases hbad with g | g | g
          · exact absurd (Or.inl g) h1
          · exact absurd (Or.inr g) h1
          · exact g
        exact ev_b A0 c0 l0 a1 A2 c2 l2 a3_0 a3_1 a3_2 w (fun g => h1 (.inl g)) (fun g => h1 (.inr g)) hs hv
    · rw [if_neg hbad] at h
      have g1 : ¬ a1 < 0 := fun g => hbad (.inl g)
      have g2 : ¬ (l0.length : Int) < a1 := fun g => hbad (.inr (.inl g))
      have hv : validS a3_0 a3_1 a3_2 = true := by
        cases g : validS a3_0 a3_1 a3_2
        · exact absurd (Or.inr (Or.inr g)) hbad
        · rfl
      have hC : RdC 26 (rdE 0) := (rd_c 17).2
      have hE : rdE 0 l0 a1 l2 a3_0 a3_1 a3_2 0 = outX (exprX l0 (termX l0 l2 (a3_0, a3_1, a3_2) 16) a1.toNat) (a3_0, a3_1, a3_2) := by
        unfold rdE
        rw [if_pos ⟨by omega, hf, hS, hs, by omega, by omega, by omega, by omega⟩]; rfl
      obtain ⟨e1, e2⟩ := exprX_like (L := l0) (termX_like (L := l0) (S := l2) (h := (a3_0, a3_1, a3_2)) 16) a1.toNat
      have he := expr_err l0 (termS l0 l2 (a3_0, a3_1, a3_2) 16) a1.toNat
      have h' : outR (exprS l0 (termS l0 l2 (a3_0, a3_1, a3_2) 16) a1.toNat) = some (r1, r2, r3, r4, r5) := h
      clear h
      generalize exprS l0 (termS l0 l2 (a3_0, a3_1, a3_2) 16) a1.toNat = s at *
      generalize exprX l0 (termX l0 l2 (a3_0, a3_1, a3_2) 16) a1.toNat = x at *
      by_cases h4 : x.2.2 = 0
      · obtain rfl := e2 h4
        unfold outR at h'
        simp only [Option.some.injEq, Prod.mk.injEq] at h'
        obtain ⟨rfl, rfl, rfl, rfl, rfl⟩ := h'
        have := ev_d A0 c0 l0 a1 A2 c2 l2 a3_0 a3_1 a3_2 hC w hr0 hr2 g1 g2 hs hv x.1.1 x.1.2.1 x.1.2.2 x.2.2 (x.2.1 : Int) a3_0 a3_1 a3_2 h4 hE
        rw [h4]; exact this
      · have hs0 := he (by rw [← e1]; exact h4)
        rw [hs0, ← e1] at h'
        unfold outR re v0 at h'
        simp only [Option.some.injEq, Prod.mk.injEq] at h'
        obtain ⟨rfl, rfl, rfl, rfl, rfl⟩ := h'
        exact ev_c A0 c0 l0 a1 A2 c2 l2 a3_0 a3_1 a3_2 hC w hr0 hr2 g1 g2 hs hv x.1.1 x.1.2.1 x.1.2.2 x.2.2 (x.2.1 : Int) a3_0 a3_1 a3_2 h4 hE
  · rw [if_neg hc] at h; cases h
end Go.Proofs.Ytpinoobgnnlccaa.A

/- The examples of the law: blocks that stay; rows of literal cells. No condition. -/
namespace Go.Proofs.Ytpinoobgnnlccaa.A
open Go Go.RowKit Go.Proofs.YtpinoobgnnlccaaW.PrintWords Go.Proofs.YtpinoobgnnlccaaW.PrintLast
set_option linter.unusedSimpArgs false
set_option linter.unusedVariables false
theorem flat_get {α β : Type} (f : α → List β) (hf : ∀ x, (f x).length = 4) : ∀ (L : List α) (j i : Nat) (p : α), L[j]? = some p → i < 4 → (L.flatMap f)[j * 4 + i]? = (f p)[i]? := by
  intro L
  induction L with
  | nil => intro j i p h; simp at h
  | cons x r ih =>
    intro j i p h hi
    rw [List.flatMap_cons]
    cases j with
    | zero =>
      obtain rfl : x = p := by simpa using h
      rw [List.getElem?_append_left (by rw [hf]; omega)]; simp
    | succ j =>
      rw [List.getElem?_append_right (by rw [hf]; omega), hf, show (j + 1) * 4 + i - 4 = j * 4 + i by omega]
      exact ih j i p (by simpa using h) hi
def c38 (x : S38) : List Value := [.int .i64 x.f0, .string x.f1, .int .i64 x.f2, .int .i64 x.f3]
def c44 (x : S44) : List Value := [.string x.f0, .int .i64 x.f1, .int .i64 x.f2, .bool x.f3]
theorem add_zero_addr (b n : Nat) : (⟨b, 0, none⟩ : Addr).add n = ⟨b, n, none⟩ := by
  unfold Addr.add
  by_cases h : n = 0
  · rw [if_pos h, h]
  · rw [if_neg h]; simp
theorem blk38 {w : World} {b : Nat} {L : List S38} (h : RB w b 38 (L.flatMap c38).toArray) (hL : L.length ≤ 1000) : Kd.C k38 w (some ⟨b, 0, none⟩) L.length L := by
  refine ⟨rfl, by omega, fun _ => ⟨⟨b, 0, none⟩, rfl, fun j p hp => ⟨c38 p, rfl, k38_mk w p, fun i u hu => ?_⟩⟩⟩
  have hi : i < 4 := (List.getElem?_eq_some_iff.1 hu).1
  have e := flat_get c38 (fun _ => rfl) L j i p hp hi
  rw [show k38.sz = 4 from rfl, add_zero_addr]
  exact h.cell _ (by rw [List.getElem?_toArray, e, hu])
theorem blk44 {w : World} {b : Nat} {L : List S44} (h : RB w b 44 (L.flatMap c44).toArray) (hL : L.length ≤ 1000) : Kd.C k44 w (some ⟨b, 0, none⟩) L.length L := by
  refine ⟨rfl, by omega, fun _ => ⟨⟨b, 0, none⟩, rfl, fun j p hp => ⟨c44 p, rfl, k44_mk w p, fun i u hu => ?_⟩⟩⟩
  have hi : i < 4 := (List.getElem?_eq_some_iff.1 hu).1
  have e := flat_get c44 (fun _ => rfl) L j i p hp hi
  rw [show k44.sz = 4 from rfl, add_zero_addr]
  exact h.cell _ (by rw [List.getElem?_toArray, e, hu])
/-- These blocks hold these cells, and nothing that was before has turned. -/
def AL (W : World) (l : List (Nat × TypeId × Array Value)) (w : World) : Prop := Below W.heap.size W w ∧ ∀ p ∈ l, RB w p.1 p.2.1 p.2.2
theorem AL.start (W : World) : AL W [] W := ⟨Below.refl _ _, fun p h => by simp at h⟩
theorem AL.below {W w w' : World} {l : List (Nat × TypeId × Array Value)} (h : AL W l w) (hb : Below w.heap.size w w') : AL W l w' := ⟨h.1.trans (hb.mono h.1.size), fun p hp => (h.2 p hp).below hb (h.2 p hp).lt⟩
theorem AL.alloc {W w : World} {l : List (Nat × TypeId × Array Value)} (h : AL W l w) (x : Obj) : AL W l (w.alloc x) := h.below (below_a (Below.refl _ _) x)
theorem AL.add {W w : World} {l : List (Nat × TypeId × Array Value)} (h : AL W l w) (t : TypeId) (C : Array Value) : AL W ((w.heap.size, t, C) :: l) (w.alloc (.cells C t)) := ⟨(h.alloc _).1, fun p hp => by
  rcases List.mem_cons.mp hp with rfl | hp
  · exact RB.new w t C
  · exact (h.alloc _).2 p hp⟩
theorem num_v (n : Int) (w : World) : Calls Try.prog 17 #[.int .i64 n] w fun e w' => e = .returned (.agg #[.int .i64 2, .string ⟨#[]⟩, .int .i64 n, .int .i64 1]) ∧ Below w.heap.size w w' := by
  go_enter Try.func17, Try.ntmps17
  go_wp2
  exact bodyPost_ret (v := .agg #[.int .i64 2, .string ⟨#[]⟩, .int .i64 n, .int .i64 1]) (by simp [results, Try.results17, go_sem]) rfl ⟨rfl, below_a (Below.refl _ _) _⟩
theorem symb_v (s : ByteArray) (w : World) : Calls Try.prog 16 #[.string s] w fun e w' => e = .returned (.agg #[.int .i64 4, .string s, .int .i64 0, .int .i64 1]) ∧ Below w.heap.size w w' := by
  go_enter Try.func16, Try.ntmps16
  go_wp2
  exact bodyPost_ret (v := .agg #[.int .i64 4, .string s, .int .i64 0, .int .i64 1]) (by simp [results, Try.results16, go_sem]) rfl ⟨rfl, below_a (Below.refl _ _) _⟩
theorem nam_v (s : ByteArray) (w : World) : Calls Try.prog 28 #[.string s] w fun e w' => e = .returned (.agg #[.int .i64 1, .string s, .int .i64 0, .int .i64 1]) ∧ Below w.heap.size w w' := by
  go_enter Try.func28, Try.ntmps28
  go_wp2
  exact bodyPost_ret (v := .agg #[.int .i64 1, .string s, .int .i64 0, .int .i64 1]) (by simp [results, Try.results28, go_sem]) rfl ⟨rfl, below_a (Below.refl _ _) _⟩
end Go.Proofs.Ytpinoobgnnlccaa.A

/- The examples of the law, walked. No condition. -/
namespace Go.Proofs.Ytpinoobgnnlccaa.A
open Go Go.RowKit Go.Proofs.YtpinoobgnnlccaaW.PrintWords Go.Proofs.YtpinoobgnnlccaaW.PrintLast
set_option linter.unusedSimpArgs false
set_option linter.unusedVariables false
def syms : List S44 := [⟨⟨#[97]⟩, 1, 10, false⟩, ⟨⟨#[98]⟩, 1, 4, false⟩]
theorem ex2 : asmexpr_Eval.f [⟨2, ⟨#[]⟩, 2, 1⟩, ⟨4, ⟨#[43]⟩, 0, 1⟩, ⟨2, ⟨#[]⟩, 3, 1⟩, ⟨4, ⟨#[42]⟩, 0, 1⟩, ⟨2, ⟨#[]⟩, 4, 1⟩] 0 [] 0 ⟨#[]⟩ 0 = some (0, ⟨#[]⟩, 20, 5, 0) := by decide +kernel
theorem ex3 : asmexpr_Eval.f [⟨1, ⟨#[97]⟩, 0, 1⟩, ⟨4, ⟨#[45]⟩, 0, 1⟩, ⟨1, ⟨#[98]⟩, 0, 1⟩] 0 syms 0 ⟨#[]⟩ 0 = some (0, ⟨#[]⟩, 6, 3, 0) := by decide +kernel
theorem ex4 : asmexpr_Eval.f [⟨1, ⟨#[97]⟩, 0, 1⟩, ⟨4, ⟨#[43]⟩, 0, 1⟩, ⟨1, ⟨#[98]⟩, 0, 1⟩] 0 syms 0 ⟨#[]⟩ 0 = some (0, ⟨#[]⟩, 0, 0, 22) := by decide +kernel
theorem ex5 : asmexpr_Eval.f [⟨1, ⟨#[120]⟩, 0, 1⟩, ⟨4, ⟨#[43]⟩, 0, 1⟩, ⟨2, ⟨#[]⟩, 1, 1⟩] 0 syms 0 ⟨#[]⟩ 0 = some (4, ⟨#[120]⟩, 1, 3, 0) := by decide +kernel
theorem ex6 : asmexpr_Eval.f [⟨4, ⟨#[45]⟩, 0, 1⟩, ⟨4, ⟨#[40]⟩, 0, 1⟩, ⟨2, ⟨#[]⟩, 1, 1⟩, ⟨4, ⟨#[41]⟩, 0, 1⟩] 0 [] 0 ⟨#[]⟩ 0 = some (0, ⟨#[]⟩, 65535, 4, 0) := by decide +kernel
theorem ex7 : asmexpr_Eval.f [⟨4, ⟨#[40]⟩, 0, 1⟩, ⟨2, ⟨#[]⟩, 1, 1⟩] 0 [] 0 ⟨#[]⟩ 0 = some (0, ⟨#[]⟩, 0, 0, 3) := by decide +kernel
theorem ex8 : asmexpr_Eval.f [⟨2, ⟨#[]⟩, 5, 1⟩, ⟨4, ⟨#[47]⟩, 0, 1⟩, ⟨2, ⟨#[]⟩, 0, 1⟩] 0 [] 0 ⟨#[]⟩ 0 = some (0, ⟨#[]⟩, 0, 0, 2) := by decide +kernel
theorem ex9 : asmexpr_Eval.f [⟨2, ⟨#[]⟩, 1, 1⟩, ⟨4, ⟨#[44]⟩, 0, 1⟩, ⟨2, ⟨#[]⟩, 2, 1⟩] 0 [] 0 ⟨#[]⟩ 0 = some (0, ⟨#[]⟩, 1, 1, 0) := by decide +kernel
theorem exAdd : asmexpr_Add.f 1 ⟨#[]⟩ 10 0 ⟨#[]⟩ 2 = some (1, ⟨#[]⟩, 12, 0) := by decide +kernel
theorem exF1 : asmexpr_Find.f 10 syms ⟨#[98]⟩ = some 1 := by decide +kernel
theorem exF2 : asmexpr_Find.f 10 syms ⟨#[99]⟩ = some (-1) := by decide +kernel
theorem cmp1 (w : World) : (binOp BinOp.neq 24 (.agg #[.int .i64 0, .string ⟨#[]⟩, .int .i64 6]) (.agg #[.int .i64 0, .string ⟨#[]⟩, .int .i64 6])).run Try.prog w = .ok (.bool false) w := by kernel_rfl
theorem cmp2 (w : World) : (binOp BinOp.neq 24 (.agg #[.int .i64 4, .string ⟨#[120]⟩, .int .i64 1]) (.agg #[.int .i64 4, .string ⟨#[120]⟩, .int .i64 1])).run Try.prog w = .ok (.bool false) w := by kernel_rfl
theorem cmp3 (w : World) : (binOp BinOp.eql 24 (.agg #[.int .i64 1, .string ⟨#[]⟩, .int .i64 12]) (.agg #[.int .i64 1, .string ⟨#[]⟩, .int .i64 12])).run Try.prog w = .ok (.bool true) w := by kernel_rfl
set_option maxHeartbeats 8000000 in
set_option maxRecDepth 100000 in
theorem alive_v (w : World) : Calls Try.prog 13 #[] w fun e w' => e = .returned (.bool true) ∧ Below w.heap.size w w' := by
  have HA0 := hidI ((AL.start w).add 44 #[.string ⟨#[97]⟩, .int .i64 1, .int .i64 10, .bool false, .string ⟨#[98]⟩, .int .i64 1, .int .i64 4, .bool false])
  go_enter Try.func13, Try.ntmps13
  go_upto_region 2 with fail
  generalize World.alloc w _ = wz at HA0 ⊢
  go_upto_region 3 with (first
    | (go_at_call 16; refine (symb_v _ _).mono ?_; rintro e w1 ⟨rfl, hb⟩; have HA2 := hidI (HA0.out.below hb); clear HA0 hb; have HA0 := HA2; clear HA2)
    | (go_at_call 17; refine (num_v _ _).mono ?_; rintro e w1 ⟨rfl, hb⟩; have HA2 := hidI (HA0.out.below hb); clear HA0 hb; have HA0 := HA2; clear HA2))
  refine (asmexpr_Eval.calls (some ⟨w1.heap.size, 0, none⟩) 5 [⟨2, ⟨#[]⟩, 2, 1⟩, ⟨4, ⟨#[43]⟩, 0, 1⟩, ⟨2, ⟨#[]⟩, 3, 1⟩, ⟨4, ⟨#[42]⟩, 0, 1⟩, ⟨2, ⟨#[]⟩, 4, 1⟩] 0 none 0 [] 0 ⟨#[]⟩ 0 0 ⟨#[]⟩ 20 5 0 _ (blk38 (L := [⟨2, ⟨#[]⟩, 2, 1⟩, ⟨4, ⟨#[43]⟩, 0, 1⟩, ⟨2, ⟨#[]⟩, 3, 1⟩, ⟨4, ⟨#[42]⟩, 0, 1⟩, ⟨2, ⟨#[]⟩, 4, 1⟩]) (RB.new _ 38 _) (by decide)) (by decide) (Kd.C_nil k44 _) (by decide) ex2).mono ?_
  rintro e w1 ⟨rfl, hb⟩
  have HA2 := hidI ((HA0.out.alloc _).below hb)
  clear HA0 hb
  go_upto_region 3 with fail
  have HA0 := hidI (HA2.out.add 24 #[.int .i64 0, .string ⟨#[]⟩, .int .i64 20])
  clear HA2
  have hb2 : ∃ b, b = w1.heap.size := ⟨_, rfl⟩
  obtain ⟨b2, hb2⟩ := hb2
  rw [← hb2] at HA0 ⊢
  generalize World.alloc w1 _ = wz at HA0 ⊢
  clear hb2 w1
  go_upto_region 4 with (first
    | (go_at_call 16; refine (symb_v _ _).mono ?_; rintro e w1 ⟨rfl, hb⟩; have HA2 := hidI (HA0.out.below hb); clear HA0 hb; have HA0 := HA2; clear HA2)
    | (go_at_call 28; refine (nam_v _ _).mono ?_; rintro e w1 ⟨rfl, hb⟩; have HA2 := hidI (HA0.out.below hb); clear HA0 hb; have HA0 := HA2; clear HA2))
  refine (asmexpr_Eval.calls (some ⟨w1.heap.size, 0, none⟩) 3 [⟨1, ⟨#[97]⟩, 0, 1⟩, ⟨4, ⟨#[45]⟩, 0, 1⟩, ⟨1, ⟨#[98]⟩, 0, 1⟩] 0 (some ⟨w.heap.size, 0, none⟩) 2 syms 0 ⟨#[]⟩ 0 0 ⟨#[]⟩ 6 3 0 _ (blk38 (L := [⟨1, ⟨#[97]⟩, 0, 1⟩, ⟨4, ⟨#[45]⟩, 0, 1⟩, ⟨1, ⟨#[98]⟩, 0, 1⟩]) (RB.new _ 38 _) (by decide)) (by decide) (blk44 (L := syms) ((HA0.out.alloc _).2 (w.heap.size, 44, #[.string ⟨#[97]⟩, .int .i64 1, .int .i64 10, .bool false, .string ⟨#[98]⟩, .int .i64 1, .int .i64 4, .bool false]) (by repeat (first | exact List.mem_cons_self | apply List.mem_cons_of_mem))) (by decide)) (by decide) ex3).mono ?_
  rintro e w1 ⟨rfl, hb⟩
  have HA2 := hidI ((HA0.out.alloc _).below hb)
  clear HA0 hb
  go_upto_region 4 with fail
  have HA0 := hidI (HA2.out.add 24 #[.int .i64 0, .string ⟨#[]⟩, .int .i64 6])
  clear HA2
  have hb3 : ∃ b, b = w1.heap.size := ⟨_, rfl⟩
  obtain ⟨b3, hb3⟩ := hb3
  rw [← hb3] at HA0 ⊢
  generalize World.alloc w1 _ = wz at HA0 ⊢
  clear hb3 w1
  go_upto_region 5 with (first
    | (go_at_call 16; refine (symb_v _ _).mono ?_; rintro e w1 ⟨rfl, hb⟩; have HA2 := hidI (HA0.out.below hb); clear HA0 hb; have HA0 := HA2; clear HA2)
    | (go_at_call 28; refine (nam_v _ _).mono ?_; rintro e w1 ⟨rfl, hb⟩; have HA2 := hidI (HA0.out.below hb); clear HA0 hb; have HA0 := HA2; clear HA2))
  refine (asmexpr_Eval.calls (some ⟨w1.heap.size, 0, none⟩) 3 [⟨1, ⟨#[97]⟩, 0, 1⟩, ⟨4, ⟨#[43]⟩, 0, 1⟩, ⟨1, ⟨#[98]⟩, 0, 1⟩] 0 (some ⟨w.heap.size, 0, none⟩) 2 syms 0 ⟨#[]⟩ 0 0 ⟨#[]⟩ 0 0 22 _ (blk38 (L := [⟨1, ⟨#[97]⟩, 0, 1⟩, ⟨4, ⟨#[43]⟩, 0, 1⟩, ⟨1, ⟨#[98]⟩, 0, 1⟩]) (RB.new _ 38 _) (by decide)) (by decide) (blk44 (L := syms) ((HA0.out.alloc _).2 (w.heap.size, 44, #[.string ⟨#[97]⟩, .int .i64 1, .int .i64 10, .bool false, .string ⟨#[98]⟩, .int .i64 1, .int .i64 4, .bool false]) (by repeat (first | exact List.mem_cons_self | apply List.mem_cons_of_mem))) (by decide)) (by decide) ex4).mono ?_
  rintro e w1 ⟨rfl, hb⟩
  have HA2 := hidI ((HA0.out.alloc _).below hb)
  clear HA0 hb
  go_upto_region 5 with fail
  have HA0 := hidI (HA2.out.add 24 #[.int .i64 0, .string ⟨#[]⟩, .int .i64 0])
  clear HA2
  have hb4 : ∃ b, b = w1.heap.size := ⟨_, rfl⟩
  obtain ⟨b4, hb4⟩ := hb4
  rw [← hb4] at HA0 ⊢
  generalize World.alloc w1 _ = wz at HA0 ⊢
  clear hb4 w1
  go_upto_region 6 with (first
    | (go_at_call 16; refine (symb_v _ _).mono ?_; rintro e w1 ⟨rfl, hb⟩; have HA2 := hidI (HA0.out.below hb); clear HA0 hb; have HA0 := HA2; clear HA2)
    | (go_at_call 17; refine (num_v _ _).mono ?_; rintro e w1 ⟨rfl, hb⟩; have HA2 := hidI (HA0.out.below hb); clear HA0 hb; have HA0 := HA2; clear HA2)
    | (go_at_call 28; refine (nam_v _ _).mono ?_; rintro e w1 ⟨rfl, hb⟩; have HA2 := hidI (HA0.out.below hb); clear HA0 hb; have HA0 := HA2; clear HA2))
  refine (asmexpr_Eval.calls (some ⟨w1.heap.size, 0, none⟩) 3 [⟨1, ⟨#[120]⟩, 0, 1⟩, ⟨4, ⟨#[43]⟩, 0, 1⟩, ⟨2, ⟨#[]⟩, 1, 1⟩] 0 (some ⟨w.heap.size, 0, none⟩) 2 syms 0 ⟨#[]⟩ 0 4 ⟨#[120]⟩ 1 3 0 _ (blk38 (L := [⟨1, ⟨#[120]⟩, 0, 1⟩, ⟨4, ⟨#[43]⟩, 0, 1⟩, ⟨2, ⟨#[]⟩, 1, 1⟩]) (RB.new _ 38 _) (by decide)) (by decide) (blk44 (L := syms) ((HA0.out.alloc _).2 (w.heap.size, 44, #[.string ⟨#[97]⟩, .int .i64 1, .int .i64 10, .bool false, .string ⟨#[98]⟩, .int .i64 1, .int .i64 4, .bool false]) (by repeat (first | exact List.mem_cons_self | apply List.mem_cons_of_mem))) (by decide)) (by decide) ex5).mono ?_
  rintro e w1 ⟨rfl, hb⟩
  have HA2 := hidI ((HA0.out.alloc _).below hb)
  clear HA0 hb
  go_upto_region 6 with fail
  have HA0 := hidI (HA2.out.add 24 #[.int .i64 4, .string ⟨#[120]⟩, .int .i64 1])
  clear HA2
  have hb5 : ∃ b, b = w1.heap.size := ⟨_, rfl⟩
  obtain ⟨b5, hb5⟩ := hb5
  rw [← hb5] at HA0 ⊢
  generalize World.alloc w1 _ = wz at HA0 ⊢
  clear hb5 w1
  go_upto_region 7 with (first
    | (go_at_call 16; refine (symb_v _ _).mono ?_; rintro e w1 ⟨rfl, hb⟩; have HA2 := hidI (HA0.out.below hb); clear HA0 hb; have HA0 := HA2; clear HA2)
    | (go_at_call 17; refine (num_v _ _).mono ?_; rintro e w1 ⟨rfl, hb⟩; have HA2 := hidI (HA0.out.below hb); clear HA0 hb; have HA0 := HA2; clear HA2))
  refine (asmexpr_Eval.calls (some ⟨w1.heap.size, 0, none⟩) 4 [⟨4, ⟨#[45]⟩, 0, 1⟩, ⟨4, ⟨#[40]⟩, 0, 1⟩, ⟨2, ⟨#[]⟩, 1, 1⟩, ⟨4, ⟨#[41]⟩, 0, 1⟩] 0 none 0 [] 0 ⟨#[]⟩ 0 0 ⟨#[]⟩ 65535 4 0 _ (blk38 (L := [⟨4, ⟨#[45]⟩, 0, 1⟩, ⟨4, ⟨#[40]⟩, 0, 1⟩, ⟨2, ⟨#[]⟩, 1, 1⟩, ⟨4, ⟨#[41]⟩, 0, 1⟩]) (RB.new _ 38 _) (by decide)) (by decide) (Kd.C_nil k44 _) (by decide) ex6).mono ?_
  rintro e w1 ⟨rfl, hb⟩
  have HA2 := hidI ((HA0.out.alloc _).below hb)
  clear HA0 hb
  go_upto_region 7 with fail
  have HA0 := hidI (HA2.out.add 24 #[.int .i64 0, .string ⟨#[]⟩, .int .i64 65535])
  clear HA2
  have hb6 : ∃ b, b = w1.heap.size := ⟨_, rfl⟩
  obtain ⟨b6, hb6⟩ := hb6
  rw [← hb6] at HA0 ⊢
  generalize World.alloc w1 _ = wz at HA0 ⊢
  clear hb6 w1
  go_upto_region 8 with (first
    | (go_at_call 16; refine (symb_v _ _).mono ?_; rintro e w1 ⟨rfl, hb⟩; have HA2 := hidI (HA0.out.below hb); clear HA0 hb; have HA0 := HA2; clear HA2)
    | (go_at_call 17; refine (num_v _ _).mono ?_; rintro e w1 ⟨rfl, hb⟩; have HA2 := hidI (HA0.out.below hb); clear HA0 hb; have HA0 := HA2; clear HA2))
  refine (asmexpr_Eval.calls (some ⟨w1.heap.size, 0, none⟩) 2 [⟨4, ⟨#[40]⟩, 0, 1⟩, ⟨2, ⟨#[]⟩, 1, 1⟩] 0 none 0 [] 0 ⟨#[]⟩ 0 0 ⟨#[]⟩ 0 0 3 _ (blk38 (L := [⟨4, ⟨#[40]⟩, 0, 1⟩, ⟨2, ⟨#[]⟩, 1, 1⟩]) (RB.new _ 38 _) (by decide)) (by decide) (Kd.C_nil k44 _) (by decide) ex7).mono ?_
  rintro e w1 ⟨rfl, hb⟩
  have HA2 := hidI ((HA0.out.alloc _).below hb)
  clear HA0 hb
  go_upto_region 8 with fail
  have HA0 := hidI (HA2.out.add 24 #[.int .i64 0, .string ⟨#[]⟩, .int .i64 0])
  clear HA2
  have hb7 : ∃ b, b = w1.heap.size := ⟨_, rfl⟩
  obtain ⟨b7, hb7⟩ := hb7
  rw [← hb7] at HA0 ⊢
  generalize World.alloc w1 _ = wz at HA0 ⊢
  clear hb7 w1
  go_upto_region 9 with (first
    | (go_at_call 16; refine (symb_v _ _).mono ?_; rintro e w1 ⟨rfl, hb⟩; have HA2 := hidI (HA0.out.below hb); clear HA0 hb; have HA0 := HA2; clear HA2)
    | (go_at_call 17; refine (num_v _ _).mono ?_; rintro e w1 ⟨rfl, hb⟩; have HA2 := hidI (HA0.out.below hb); clear HA0 hb; have HA0 := HA2; clear HA2))
  refine (asmexpr_Eval.calls (some ⟨w1.heap.size, 0, none⟩) 3 [⟨2, ⟨#[]⟩, 5, 1⟩, ⟨4, ⟨#[47]⟩, 0, 1⟩, ⟨2, ⟨#[]⟩, 0, 1⟩] 0 none 0 [] 0 ⟨#[]⟩ 0 0 ⟨#[]⟩ 0 0 2 _ (blk38 (L := [⟨2, ⟨#[]⟩, 5, 1⟩, ⟨4, ⟨#[47]⟩, 0, 1⟩, ⟨2, ⟨#[]⟩, 0, 1⟩]) (RB.new _ 38 _) (by decide)) (by decide) (Kd.C_nil k44 _) (by decide) ex8).mono ?_
  rintro e w1 ⟨rfl, hb⟩
  have HA2 := hidI ((HA0.out.alloc _).below hb)
  clear HA0 hb
  go_upto_region 9 with fail
  have HA0 := hidI (HA2.out.add 24 #[.int .i64 0, .string ⟨#[]⟩, .int .i64 0])
  clear HA2
  have hb8 : ∃ b, b = w1.heap.size := ⟨_, rfl⟩
  obtain ⟨b8, hb8⟩ := hb8
  rw [← hb8] at HA0 ⊢
  generalize World.alloc w1 _ = wz at HA0 ⊢
  clear hb8 w1
  go_upto_region 10 with (first
    | (go_at_call 16; refine (symb_v _ _).mono ?_; rintro e w1 ⟨rfl, hb⟩; have HA2 := hidI (HA0.out.below hb); clear HA0 hb; have HA0 := HA2; clear HA2)
    | (go_at_call 17; refine (num_v _ _).mono ?_; rintro e w1 ⟨rfl, hb⟩; have HA2 := hidI (HA0.out.below hb); clear HA0 hb; have HA0 := HA2; clear HA2))
  refine (asmexpr_Eval.calls (some ⟨w1.heap.size, 0, none⟩) 3 [⟨2, ⟨#[]⟩, 1, 1⟩, ⟨4, ⟨#[44]⟩, 0, 1⟩, ⟨2, ⟨#[]⟩, 2, 1⟩] 0 none 0 [] 0 ⟨#[]⟩ 0 0 ⟨#[]⟩ 1 1 0 _ (blk38 (L := [⟨2, ⟨#[]⟩, 1, 1⟩, ⟨4, ⟨#[44]⟩, 0, 1⟩, ⟨2, ⟨#[]⟩, 2, 1⟩]) (RB.new _ 38 _) (by decide)) (by decide) (Kd.C_nil k44 _) (by decide) ex9).mono ?_
  rintro e w1 ⟨rfl, hb⟩
  have HA2 := hidI ((HA0.out.alloc _).below hb)
  clear HA0 hb
  go_upto_region 10 with fail
  have HA0 := hidI (HA2.out.add 24 #[.int .i64 0, .string ⟨#[]⟩, .int .i64 1])
  clear HA2
  have hb9 : ∃ b, b = w1.heap.size := ⟨_, rfl⟩
  obtain ⟨b9, hb9⟩ := hb9
  rw [← hb9] at HA0 ⊢
  generalize World.alloc w1 _ = wz at HA0 ⊢
  clear hb9 w1
  go_upto_region 11 with (go_at_call 19; refine (asmexpr_Add.calls 1 ⟨#[]⟩ 10 0 ⟨#[]⟩ 2 1 ⟨#[]⟩ 12 0 _ exAdd).mono ?_; rintro e w1 ⟨rfl, hb⟩; have HA2 := hidI (HA0.out.below hb); clear HA0 hb; have HA0 := HA2; clear HA2)
  have HA2 := hidI (HA0.out.add 24 #[.int .i64 1, .string ⟨#[]⟩, .int .i64 12])
  clear HA0
  obtain ⟨b10, hb10⟩ : ∃ b, b = w1.heap.size := ⟨_, rfl⟩
  rw [← hb10] at HA2 ⊢
  generalize World.alloc w1 _ = wz at HA2 ⊢
  clear hb10 w1
  have c2 := HA2.out.2 (b2, 24, #[.int .i64 0, .string ⟨#[]⟩, .int .i64 20]) (by repeat (first | exact List.mem_cons_self | apply List.mem_cons_of_mem))
  have c2_0 : wz.cell? ⟨b2, 0, none⟩ = some (.int .i64 0) := RB.cell c2 0 rfl
  have c2_1 : wz.cell? ⟨b2, 1, none⟩ = some (.string ⟨#[]⟩) := RB.cell c2 1 rfl
  have c2_2 : wz.cell? ⟨b2, 2, none⟩ = some (.int .i64 20) := RB.cell c2 2 rfl
  clear c2
  have c3 := HA2.out.2 (b3, 24, #[.int .i64 0, .string ⟨#[]⟩, .int .i64 6]) (by repeat (first | exact List.mem_cons_self | apply List.mem_cons_of_mem))
  have c3_0 : wz.cell? ⟨b3, 0, none⟩ = some (.int .i64 0) := RB.cell c3 0 rfl
  have c3_1 : wz.cell? ⟨b3, 1, none⟩ = some (.string ⟨#[]⟩) := RB.cell c3 1 rfl
  have c3_2 : wz.cell? ⟨b3, 2, none⟩ = some (.int .i64 6) := RB.cell c3 2 rfl
  clear c3
  have c5 := HA2.out.2 (b5, 24, #[.int .i64 4, .string ⟨#[120]⟩, .int .i64 1]) (by repeat (first | exact List.mem_cons_self | apply List.mem_cons_of_mem))
  have c5_0 : wz.cell? ⟨b5, 0, none⟩ = some (.int .i64 4) := RB.cell c5 0 rfl
  have c5_1 : wz.cell? ⟨b5, 1, none⟩ = some (.string ⟨#[120]⟩) := RB.cell c5 1 rfl
  have c5_2 : wz.cell? ⟨b5, 2, none⟩ = some (.int .i64 1) := RB.cell c5 2 rfl
  clear c5
  have c6 := HA2.out.2 (b6, 24, #[.int .i64 0, .string ⟨#[]⟩, .int .i64 65535]) (by repeat (first | exact List.mem_cons_self | apply List.mem_cons_of_mem))
  have c6_0 : wz.cell? ⟨b6, 0, none⟩ = some (.int .i64 0) := RB.cell c6 0 rfl
  have c6_1 : wz.cell? ⟨b6, 1, none⟩ = some (.string ⟨#[]⟩) := RB.cell c6 1 rfl
  have c6_2 : wz.cell? ⟨b6, 2, none⟩ = some (.int .i64 65535) := RB.cell c6 2 rfl
  clear c6
  have c10 := HA2.out.2 (b10, 24, #[.int .i64 1, .string ⟨#[]⟩, .int .i64 12]) (by repeat (first | exact List.mem_cons_self | apply List.mem_cons_of_mem))
  have c10_0 : wz.cell? ⟨b10, 0, none⟩ = some (.int .i64 1) := RB.cell c10 0 rfl
  have c10_1 : wz.cell? ⟨b10, 1, none⟩ = some (.string ⟨#[]⟩) := RB.cell c10 1 rfl
  have c10_2 : wz.cell? ⟨b10, 2, none⟩ = some (.int .i64 12) := RB.cell c10 2 rfl
  clear c10
  have q1 := cmp1
  have q2 := cmp2
  have q3 := cmp3
  go_wp2_with (first
    | (go_at_call 14; have _t := HA2; refine (asmexpr_Find.calls 10 (some ⟨w.heap.size, 0, none⟩) 2 syms ⟨#[98]⟩ 1 _ (blk44 (L := syms) (HA2.out.2 (w.heap.size, 44, #[.string ⟨#[97]⟩, .int .i64 1, .int .i64 10, .bool false, .string ⟨#[98]⟩, .int .i64 1, .int .i64 4, .bool false]) (by repeat (first | exact List.mem_cons_self | apply List.mem_cons_of_mem))) (by decide)) (by decide) exF1).mono ?_; rintro e w1 ⟨rfl, hb⟩; have HA3 := hidI (HA2.out.below hb); clear HA2 hb _t)
    | (go_at_call 14; refine (asmexpr_Find.calls 10 (some ⟨w.heap.size, 0, none⟩) 2 syms ⟨#[99]⟩ (-1) _ (blk44 (L := syms) (HA3.out.2 (w.heap.size, 44, #[.string ⟨#[97]⟩, .int .i64 1, .int .i64 10, .bool false, .string ⟨#[98]⟩, .int .i64 1, .int .i64 4, .bool false]) (by repeat (first | exact List.mem_cons_self | apply List.mem_cons_of_mem))) (by decide)) (by decide) exF2).mono ?_; rintro e w2 ⟨rfl, hb⟩; have HA4 := hidI (HA3.out.below hb); clear HA3 hb))
  go_ret
  exact ⟨rfl, HA4.out.1⟩
end Go.Proofs.Ytpinoobgnnlccaa.A

/- The examples of the law: their contract in the printed form. No condition. -/
namespace Go.Proofs.Ytpinoobgnnlccaa.A
open Go Go.RowKit
def emulatorlaw26_alive.f : Option Bool := some true
theorem emulatorlaw26_alive.calls (r : Bool) (w : World) (h : emulatorlaw26_alive.f = some r) : Calls Try.prog 13 #[] w fun e w' => e = .returned (.bool r) ∧ Below w.heap.size w w' := by
  obtain rfl := Option.some.inj h
  exact alive_v w
end Go.Proofs.Ytpinoobgnnlccaa.A
