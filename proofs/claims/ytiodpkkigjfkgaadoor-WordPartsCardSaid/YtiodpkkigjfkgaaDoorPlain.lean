/- The plain laws of emulatorlaw01 (word): each law's function, as printed, answers true. Numbers alone, no memory. Conditions: the ranges of Go's ints. -/
import Derived.Test.YtiodpkkigjfkgaaDoorWord2
namespace Go.Proofs.YtiodpkkigjfkgaaDoor.Plain
set_option linter.unusedSimpArgs false
set_option linter.unusedVariables false
open Go.RowKit Go.Proofs.YtiodpkkigjfkgaaDoor.A Go.Proofs.YtiodpkkigjfkgaaDoor.Bits Go.Proofs.YtiodpkkigjfkgaaDoor.Wd Go.Proofs.YtiodpkkigjfkgaaDoorW.PrintMore Go.Proofs.YtiodpkkigjfkgaaDoorW.PrintWords

theorem alive_ge (n : Nat) : emulatorlaw01_alive.f (40 + n) = some true := by
  induction n with
  | zero => exact alive_K
  | succ n ih => exact emulatorlaw01_alive.mono (40 + n) true ih

theorem WordSums (a b c : Int) (w : Bool) : emulatorlaw01_WordSums.f 40 a b c w = some true := by
  unfold emulatorlaw01_WordSums.f
  rw [add_v, radd_v 39, sub_v, rsub_v 39, alive_K]
  simp -implicitDefEqProofs only [Option.bind_some, if_true]
theorem WordProducts (a b c : Int) : emulatorlaw01_WordProducts.f 41 a b c = some true := by
  unfold emulatorlaw01_WordProducts.f
  rw [mul_v, rmul_v 38]
  simp -implicitDefEqProofs only [Option.bind_some, if_true, bne_self_eq_false]
  simp only [emulatorlaw01_WordProducts.j0, Bool.false_eq_true, if_false]
  rw [div_v, rdiv_v 39, alive_K]
  simp -implicitDefEqProofs only [Option.bind_some, if_true, beq_self_eq_true]
theorem WordShifts (a n : Int) : emulatorlaw01_WordShifts.f 40 a n = some true := by
  unfold emulatorlaw01_WordShifts.f
  rw [shift_v 40 (by decide), rshift_v 40 (by decide), alive_K]
  simp -implicitDefEqProofs only [Option.bind_some, if_true]
theorem WordRotates (a b c : Int) (w l : Bool) : emulatorlaw01_WordRotates.f 40 a b c w l = some true := by
  unfold emulatorlaw01_WordRotates.f
  rw [rot_v, rrot_v 39, alive_K]
  simp -implicitDefEqProofs only [Option.bind_some, if_true]
theorem wrap_i8 (n : Int) : IntKind.i8.wrap n = sv n true := by
  have h : IntKind.i8.wrap n = (n + 128) % 256 - 128 := by
    simp [IntKind.wrap, IntKind.bits, IntKind.signed]
    split <;> omega
  rw [h]; unfold sv S M; simp only [if_true, decide_eq_true_eq]; split <;> omega
theorem WordParts (a : Int) (w : Bool) : emulatorlaw01_WordParts.f 40 a w = some true := by
  have h8 := sv8_bd a
  unfold emulatorlaw01_WordParts.f word_Extend.f emulatorref01_Extend.f
  rw [wrap_v, rwrap_v, signed_v, rsigned_v, wrap_i8, wrap_in _ (by omega) (by omega), wrap_v, value_v, flags_v, rflags_v, alive_K]
  simp -implicitDefEqProofs only [Option.bind_some, if_true, rwrap_v]
theorem lsigned_v (x : Int) (w : Bool) : emulatorlaw01_signed.f x w = some (sv x w) := by
  unfold emulatorlaw01_signed.f
  cases w
  · rw [if_neg (by decide), and65535]
    have h : wrap64 (x + 32768) % 65536 = (x + 32768) % 65536 := by unfold wrap64; omega
    rw [h, wrap_in _ (by omega) (by omega)]
    congr 1
    unfold sv S M; simp only [Bool.false_eq_true, if_false, decide_eq_true_eq]; split <;> omega
  · rw [if_pos rfl, and255]
    have h : wrap64 (x + 128) % 256 = (x + 128) % 256 := by unfold wrap64; omega
    rw [h, wrap_in _ (by omega) (by omega)]
    congr 1
    unfold sv S M; simp only [if_true, decide_eq_true_eq]; split <;> omega
theorem f2 (n z c v : Bool) : (Go.bits .and .i64 (bi n 8 + bi z 4 + bi c 1 + bi v 2) 2 != 0) = v := by cases n <;> cases z <;> cases c <;> cases v <;> decide +kernel
theorem f1 (n z c v : Bool) : (Go.bits .and .i64 (bi n 8 + bi z 4 + bi c 1 + bi v 2) 1 != 0) = c := by cases n <;> cases z <;> cases c <;> cases v <;> decide +kernel
theorem f1m (n z c v : Bool) : (bi n 8 + bi z 4 + bi c 1 + bi v 2) % 2 = bi c 1 := by cases n <;> cases z <;> cases c <;> cases v <;> decide
theorem add_ovf (a b c : Int) (w : Bool) : ((S a w != S (addN a b c w) w) && (S b w != S (addN a b c w) w)) = ((sv (a % M w) w + sv (b % M w) w + c % 2) != sv (sv (a % M w) w + sv (b % M w) w + c % 2) w) := by
  apply Bool.eq_iff_iff.2
  rw [Bool.and_eq_true, bne_iff_ne, bne_iff_ne, bne_iff_ne]
  cases w
  · simp only [S, sv, M, addN, Bool.false_eq_true, if_false, decide_eq_true_eq, ne_eq, decide_eq_decide, Int.emod_emod_of_dvd _ (Int.dvd_refl _)]
    by_cases h1 : 32768 ≤ a % 65536 <;> by_cases h2 : 32768 ≤ b % 65536 <;> simp only [h1, h2, if_true, if_false, true_iff, iff_true, false_iff, iff_false, not_true_eq_false, not_false_eq_true, and_true, true_and, and_false, false_and, iff_self, Classical.not_not] <;> split <;> omega
  · simp only [S, sv, M, addN, if_true, decide_eq_true_eq, ne_eq, decide_eq_decide, Int.emod_emod_of_dvd _ (Int.dvd_refl _)]
    by_cases h1 : 128 ≤ a % 256 <;> by_cases h2 : 128 ≤ b % 256 <;> simp only [h1, h2, if_true, if_false, true_iff, iff_true, false_iff, iff_false, not_true_eq_false, not_false_eq_true, and_true, true_and, and_false, false_and, iff_self, Classical.not_not] <;> split <;> omega
theorem sub_ovf (a b c : Int) (w : Bool) : ((S a w != S b w) && (S a w != S (subN a b c w) w)) = ((sv (a % M w) w - sv (b % M w) w - c % 2) != sv (sv (a % M w) w - sv (b % M w) w - c % 2) w) := by
  apply Bool.eq_iff_iff.2
  rw [Bool.and_eq_true, bne_iff_ne, bne_iff_ne, bne_iff_ne]
  cases w
  · simp only [S, sv, M, subN, Bool.false_eq_true, if_false, decide_eq_true_eq, ne_eq, decide_eq_decide, Int.emod_emod_of_dvd _ (Int.dvd_refl _)]
    by_cases h1 : 32768 ≤ a % 65536 <;> by_cases h2 : 32768 ≤ b % 65536 <;> simp only [h1, h2, if_true, if_false, true_iff, iff_true, false_iff, iff_false, not_true_eq_false, not_false_eq_true, and_true, true_and, and_false, false_and, iff_self, Classical.not_not] <;> split <;> omega
  · simp only [S, sv, M, subN, if_true, decide_eq_true_eq, ne_eq, decide_eq_decide, Int.emod_emod_of_dvd _ (Int.dvd_refl _)]
    by_cases h1 : 128 ≤ a % 256 <;> by_cases h2 : 128 ≤ b % 256 <;> simp only [h1, h2, if_true, if_false, true_iff, iff_true, false_iff, iff_false, not_true_eq_false, not_false_eq_true, and_true, true_and, and_false, false_and, iff_self, Classical.not_not] <;> split <;> omega
theorem svw_bd (x : Int) (w : Bool) : -32768 ≤ sv x w ∧ sv x w ≤ 32767 := by
  cases w
  · exact sv_bd x
  · have := sv8_bd x; omega
theorem undo_j0 (a b c : Int) (w : Bool) : emulatorlaw01_WordUndo.j0 42 (M w - 1) a b c w = some true := by
  have hb := M_le w
  have hp := M_pos w
  have h1 := Int.emod_nonneg a (Int.ne_of_gt hp)
  have h2 := Int.emod_lt_of_pos a hp
  have h3 := Int.emod_nonneg b (Int.ne_of_gt hp)
  have h4 := Int.emod_lt_of_pos b hp
  have hsa := svw_bd (a % M w) w
  have hsb := svw_bd (b % M w) w
  simp only [emulatorlaw01_WordUndo.j0]
  rw [add_v]
  simp -implicitDefEqProofs only [Option.bind_some]
  rw [sub_v (addP a b c w).1, sub_v a]
  simp -implicitDefEqProofs only [Option.bind_some]
  rw [and_M a, and_M b, and1, and_M, and_M, wrap_in (a % M w + b % M w) (by omega) (by omega), wrap_in (a % M w + b % M w + c % 2) (by omega) (by omega), wrap_in (a % M w - b % M w) (by omega) (by omega), wrap_in (a % M w - b % M w - c % 2) (by omega) (by omega)]
  have e1 : (subP (addP a b c w).1 b c w).1 = a % M w := by
    unfold subP addP subN addN; dsimp only
    rcases hb with h | h <;> rw [h] <;> omega
  rw [if_pos e1, if_pos (show (addP a b c w).1 = (a % M w + b % M w + c % 2) % M w from rfl)]
  have e2 : ((subP a b c w).1 != (a % M w - b % M w - c % 2) % M w) = false := bne_eq_false_iff_eq.2 rfl
  rw [e2]
  simp only [emulatorlaw01_WordUndo.j1, Bool.false_eq_true, if_false]
  rw [and_M, and_M, and1]
  simp -implicitDefEqProofs only [lsigned_v, Option.bind_some]
  rw [wrap_in (sv (a % M w) w + sv (b % M w) w) (by omega) (by omega), wrap_in (sv (a % M w) w + sv (b % M w) w + c % 2) (by omega) (by omega), wrap_in (sv (a % M w) w - sv (b % M w) w) (by omega) (by omega), wrap_in (sv (a % M w) w - sv (b % M w) w - c % 2) (by omega) (by omega),
    wrap_in (a % M w + b % M w) (by omega) (by omega), wrap_in (a % M w + b % M w + c % 2) (by omega) (by omega), wrap_in (a % M w - b % M w) (by omega) (by omega), wrap_in (a % M w - b % M w - c % 2) (by omega) (by omega)]
  have c1 : (Go.bits .and .i64 (addP a b c w).2 2 != 0) = ((sv (a % M w) w + sv (b % M w) w + c % 2) != sv (sv (a % M w) w + sv (b % M w) w + c % 2) w) := by
    rw [← add_ovf]; exact f2 _ _ _ _
  have c2 : (Go.bits .and .i64 (subP a b c w).2 2 != 0) = ((sv (a % M w) w - sv (b % M w) w - c % 2) != sv (sv (a % M w) w - sv (b % M w) w - c % 2) w) := by
    rw [← sub_ovf]; exact f2 _ _ _ _
  have c3 : (Go.bits .and .i64 (addP a b c w).2 1 != 0) = decide (a % M w + b % M w + c % 2 > M w - 1) := by
    have : (Go.bits .and .i64 (addP a b c w).2 1 != 0) = decide (M w ≤ addN a b c w) := f1 _ _ _ _
    rw [this]; unfold addN; apply Bool.eq_iff_iff.2; simp only [decide_eq_true_eq]; omega
  have c4 : (Go.bits .and .i64 (subP a b c w).2 1 != 0) = decide (a % M w - b % M w - c % 2 < 0) := f1 _ _ _ _
  rw [c1, c2, c3, c4]
  simp only [bne_self_eq_false, Bool.false_eq_true, if_false, beq_self_eq_true, if_true]
  rw [alive_K]; rfl
theorem WordUndo (a b c : Int) (w : Bool) : emulatorlaw01_WordUndo.f 42 a b c w = some true := by
  unfold emulatorlaw01_WordUndo.f
  cases w
  · exact undo_j0 a b c false
  · exact undo_j0 a b c true

/-! ### a product, divided -/
theorem back (b c : Int) : divP (mulP b c).1 (mulP b c).2.1 c = if sv c false = 0 then (0, 0, 3, false) else (b % 65536, 0, fl (sv b false) false, true) := by
  have hp := prod_bd b c
  have hn : num (mulP b c).1 (mulP b c).2.1 = prod b c := by
    unfold mulP num; dsimp only
    have : sv (prod b c / 65536 % 65536) false = prod b c / 65536 := by
      rw [sv_of _ (prod b c / 65536) (by omega)]; exact sv_id _ (by omega) (by omega)
    rw [this]; omega
  unfold divP
  rw [hn]
  by_cases h : sv c false = 0
  · rw [if_pos h, if_pos h]
  · have hb := sv_bd b
    have e1 : Int.tdiv (prod b c) (sv c false) = sv b false := by unfold prod; exact Int.mul_tdiv_cancel _ h
    have e2 : Int.tmod (prod b c) (sv c false) = 0 := by unfold prod; exact Int.mul_tmod_left _ _
    rw [if_neg h, if_neg h, e1, e2, if_neg (by omega), sv_mod]
    rfl
theorem div_j0 (b c : Int) : emulatorlaw01_WordDivides.j0 41 b c (sv c false) false = some true := by
  simp only [emulatorlaw01_WordDivides.j0, Bool.false_eq_true, if_false]
  rw [mul_v]
  simp -implicitDefEqProofs only [Option.bind_some]
  rw [div_v, back, alive_K, and65535]
  simp -implicitDefEqProofs only [Option.bind_some]
  by_cases h : sv c false = 0
  · have h' : (sv c false != 0) = false := bne_eq_false_iff_eq.2 h
    rw [if_pos h, h', if_pos h]; rfl
  · have h' : (sv c false != 0) = true := bne_iff_ne.2 h
    rw [if_neg h, h', if_neg h, if_pos (show (true == true) = true from rfl), if_pos rfl, if_pos rfl]
theorem div_j1 (b c : Int) : emulatorlaw01_WordDivides.j1 41 b c (sv c false) false = some true := by
  simp only [emulatorlaw01_WordDivides.j1, Bool.false_eq_true, if_false]
  rw [mul_v]
  simp -implicitDefEqProofs only [Option.bind_some]
  rw [div_v, back, alive_K, and65535]
  simp -implicitDefEqProofs only [Option.bind_some]
  by_cases h : sv c false = 0
  · have h' : (sv c false != 0) = false := bne_eq_false_iff_eq.2 h
    rw [if_pos h, h', if_pos h]; rfl
  · have h' : (sv c false != 0) = true := bne_iff_ne.2 h
    rw [if_neg h, h', if_neg h, if_pos (show (true == true) = true from rfl), if_pos rfl, if_pos rfl]
theorem tmod_facts (n d : Int) (hd : d ≠ 0) : (0 < d → -d < Int.tmod n d ∧ Int.tmod n d < d) ∧ (d < 0 → d < Int.tmod n d ∧ Int.tmod n d < -d) ∧ (0 ≤ n → 0 ≤ Int.tmod n d) ∧ (n ≤ 0 → Int.tmod n d ≤ 0) := by
  have h1 : (Int.tmod n d).natAbs < d.natAbs := by rw [Int.natAbs_tmod]; exact Nat.mod_lt _ (by omega)
  refine ⟨fun h => by omega, fun h => by omega, fun h => Int.tmod_nonneg _ h, fun h => ?_⟩
  have h2 : Int.tmod (-n) d = -Int.tmod n d := Int.neg_tmod _ _
  have h3 : 0 ≤ Int.tmod (-n) d := Int.tmod_nonneg _ (by omega)
  omega
theorem WordDivides (a b c : Int) : emulatorlaw01_WordDivides.f 41 a b c = some true := by
  have hn := num_bd a b
  have hd := sv_bd c
  unfold emulatorlaw01_WordDivides.f
  rw [and65535, and65535, and65535, lsigned_v, lsigned_v, div_v]
  rw [sv_of (a % 65536) a (by omega), sv_of (c % 65536) c (by omega)]
  simp -implicitDefEqProofs only [Option.bind_some]
  have hsa := sv_bd a
  have e : wrap64 (wrap64 (sv a false * 65536) + b % 65536) = num a b := by
    unfold num; rw [wrap_in (sv a false * 65536) (by omega) (by omega), wrap_in _ (by omega) (by omega)]
  rw [e]
  have J0 := div_j0 b c
  have J1 := div_j1 b c
  unfold divP
  generalize sv c false = d at *
  by_cases h0 : d = 0
  · rw [if_pos h0, if_neg (by decide), if_pos h0]
    exact J1
  · rw [if_neg h0]
    have hq := tdiv_bd (num a b) d hn.1 hn.2 h0
    have hr := tmod_facts (num a b) d h0
    have hqr : Int.tdiv (num a b) d * d + Int.tmod (num a b) d = num a b := by rw [Int.mul_comm]; exact Int.mul_tdiv_add_tmod _ _
    generalize Int.tdiv (num a b) d = q at *
    generalize Int.tmod (num a b) d = r at *
    generalize num a b = n at *
    by_cases ho : q < -32768 ∨ q > 32767
    · rw [if_pos ho, if_neg (by decide), if_neg h0, wrap_in q (by omega) (by omega)]
      split
      · rw [decide_eq_false (by omega)]; exact J1
      · exact J1
    · rw [if_neg ho]
      simp -implicitDefEqProofs only [if_true, lsigned_v, Option.bind_some]
      rw [sv_of (q % 65536) q (by omega), sv_id q (by omega) (by omega), sv_of (r % 65536) r (by omega), sv_id r (by omega) (by omega)]
      have hqd : q * d = n - r := by omega
      rw [hqd, wrap_in (n - r) (by omega) (by omega), wrap_in (n - r + r) (by omega) (by omega), if_pos (by omega), wrap_in (-r) (by omega) (by omega)]
      clear hqr hqd hq e
      have hs : ∀ P : Option Bool → Prop, (∀ x, x = true → r ≠ 0 → (decide (r < 0) != decide (n < 0)) = x → False) := by
        intro P x hx hr0 h
        subst hx
        rw [bne_iff_ne, ne_eq, decide_eq_decide] at h
        omega
      have hs' : r ≠ 0 → (decide (r < 0) != decide (n < 0)) = false := by
        intro hr0
        cases h : (decide (r < 0) != decide (n < 0))
        · rfl
        · exact absurd (hs (fun _ => True) _ rfl hr0 h) id
      by_cases hr0 : r = 0
      · rw [if_pos hr0]
        repeat' split
        all_goals first | exact J0 | (rw [decide_eq_false (by omega)]; exact J0) | (exfalso; omega)
      · rw [if_neg hr0, hs' hr0, if_neg (by decide)]
        repeat' split
        all_goals first | exact J0 | (rw [decide_eq_false (by omega)]; exact J0) | (exfalso; omega)

/-! ### turning -/
theorem shl_fst : ∀ (n : Nat) (v0 v : Int) (c o : Bool), 0 ≤ v → v < 65536 → (shlP n v0 v c o).1 = v * 2 ^ n % 65536 := by
  intro n
  induction n with
  | zero => intro v0 v c o h0 h1; simp only [shlP, Int.pow_zero, Int.mul_one]; omega
  | succ n ih =>
    intro v0 v c o h0 h1
    simp only [shlP]
    rw [ih _ _ _ _ (by omega) (by omega), Int.pow_succ, Int.mul_comm (2 ^ n) 2, ← Int.mul_assoc, Int.mul_comm v 2, Int.mul_emod, Int.emod_emod_of_dvd _ (Int.dvd_refl _), ← Int.mul_emod]
theorem shr_fst : ∀ (n : Nat) (v : Int) (c : Bool), 0 ≤ v → v < 65536 → (shrP n v c).1 = sv v false / 2 ^ n % 65536 := by
  intro n
  induction n with
  | zero => intro v c h0 h1; simp only [shrP, Int.pow_zero, Int.ediv_one]; rw [sv_mod]; omega
  | succ n ih =>
    intro v c h0 h1
    have h2 := sh_bd v h0 h1
    simp only [shrP]
    rw [ih _ _ h2.1 h2.2]
    have e : sv (v / 2 + bi (S v false) 32768) false = sv v false / 2 := by
      unfold sv S bi M; simp only [Bool.false_eq_true, if_false, decide_eq_true_eq]
      by_cases h : 32768 ≤ v % 65536
      · simp only [h, if_true]; split <;> omega
      · simp only [h, if_false]; split <;> omega
    rw [e, Int.pow_succ, Int.mul_comm (2 ^ n) 2, Int.ediv_ediv, if_neg (fun h => absurd h.1 (by decide)), Int.sub_zero]
theorem turn_back (a c : Int) (w : Bool) : rotR (rotP a c true w).1 (rotP a c true w).2 false w = a % M w ∧ (rotP (rotP a c true w).1 (rotP a c true w).2 false w).2 % 2 = c % 2 := by
  have hc : (rotP a c true w).2 % 2 = bi (S a w) 1 := f1m _ _ _ _
  have hr : (rotP a c true w).1 = (2 * (a % M w) + c % 2) % M w := rfl
  constructor
  · unfold rotR
    rw [if_neg (by decide), hc, hr]
    cases w
    · unfold S bi M; simp only [Bool.false_eq_true, if_false, decide_eq_true_eq]
      by_cases h : 32768 ≤ a % 65536
      · simp only [h, if_true]; omega
      · simp only [h, if_false]; omega
    · unfold S bi M; simp only [if_true, decide_eq_true_eq]
      by_cases h : 128 ≤ a % 256
      · simp only [h, if_true]; omega
      · simp only [h, if_false]; omega
  · have : (rotP (rotP a c true w).1 (rotP a c true w).2 false w).2 % 2 = bi (rotC (rotP a c true w).1 false w) 1 := f1m _ _ _ _
    rw [this, hr]
    unfold rotC bi
    simp only [Bool.false_eq_true, if_false, decide_eq_true_eq]
    cases w
    · simp only [M, Bool.false_eq_true, if_false]; split <;> omega
    · simp only [M, if_true]; split <;> omega
theorem pow_ok (q : Nat) (h : q ≤ 15) : (1 : Int) ≤ 2 ^ q := by exact_mod_cast Nat.one_le_two_pow
theorem turns_j0 (n a b c : Int) (w : Bool) (h0 : 0 ≤ n) (h1 : n ≤ 255) : emulatorlaw01_WordTurns.j0 42 n (rotP (rotP a c true w).1 (rotP a c true w).2 false w).1 (rotP (rotP a c true w).1 (rotP a c true w).2 false w).2 (M w - 1) a b c w = some true := by
  obtain ⟨e1, e2⟩ := turn_back a c w
  simp only [emulatorlaw01_WordTurns.j0]
  rw [and_M, if_pos (show (rotP (rotP a c true w).1 (rotP a c true w).2 false w).1 = a % M w from e1), and1, and1, e2]
  simp only [bne_self_eq_false, emulatorlaw01_WordTurns.j1, Bool.false_eq_true, if_false]
  have hm : wrap64 (Int.tmod n 16) = n % 16 := by rw [Int.tmod_eq_emod_of_nonneg h0]; exact wrap_in _ (by omega) (by omega)
  rw [hm, wrap_in (-(n % 16)) (by omega) (by omega), shift_v 40 (by decide), shift_v 40 (by decide), and65535, and65535, lsigned_v]
  simp -implicitDefEqProofs only [Option.bind_some]
  rw [if_pos (by omega), and65535]
  obtain ⟨q, hq⟩ : ∃ q : Nat, n % 16 = q := ⟨(n % 16).toNat, by omega⟩
  have hq15 : q ≤ 15 := by omega
  rw [hq]
  have c1 : cnt (q : Int) = q := by unfold cnt; omega
  have c2 : cnt (-(q : Int)) = -q := by unfold cnt; omega
  have ea : a % 65536 % 65536 = a % 65536 := by omega
  have s1 : (shiftP a q).1 = shl .i64 a q % 65536 := by
    unfold shiftP shl
    rw [c1, if_pos (by omega), Int.toNat_natCast, Nat.min_eq_left (by show q ≤ 64; omega)]
    show (shlP q _ _ _ _).1 = _
    rw [shl_fst _ _ _ _ _ (by omega) (by omega)]
    have e3 : ∀ x : Int, IntKind.i64.wrap x % 65536 = x % 65536 := by intro x; rw [IntKind.wrap_i64]; omega
    rw [e3, Int.mul_emod, ea, ← Int.mul_emod]
  have s2 : (shiftP a (-(q : Int))).1 = shr .i64 (sv (a % 65536) false) q % 65536 := by
    unfold shiftP shr
    rw [c2, Int.toNat_natCast, Nat.min_eq_left (by show q ≤ 64; omega)]
    by_cases hz : q = 0
    · subst hz
      rw [if_pos (by omega)]
      show a % 65536 = _
      simp only [Int.pow_zero, Int.ediv_one]
      rw [sv_mod, ea]
    · rw [if_neg (by omega)]
      show (shrP _ _ _).1 = _
      rw [show (- -(q : Int)).toNat = q by omega, shr_fst _ _ _ (by omega) (by omega)]
  rw [if_pos s1, if_pos s2, alive_K]
  rfl
theorem WordTurns (a b c : Int) (w : Bool) (n : Int) (h0 : 0 ≤ n) (h1 : n ≤ 255) : emulatorlaw01_WordTurns.f 42 a b c w n = some true := by
  unfold emulatorlaw01_WordTurns.f
  rw [rot_v]
  simp -implicitDefEqProofs only [Option.bind_some]
  rw [rot_v]
  simp -implicitDefEqProofs only [Option.bind_some]
  cases w
  · exact turns_j0 n a b c false h0 h1
  · exact turns_j0 n a b c true h0 h1
end Go.Proofs.YtiodpkkigjfkgaaDoor.Plain
