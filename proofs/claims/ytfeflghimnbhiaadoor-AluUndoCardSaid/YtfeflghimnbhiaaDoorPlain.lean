/- The plain laws of emulatorlaw10 (alu): each law's function, as printed, answers true; before them: the plain functions of package alu and of its reference (emulatorref10), as printed, come to the same numbers. Numbers alone, no memory. Conditions: none (every int), but where a bound is stated. -/
import Derived.Test.YtfeflghimnbhiaaDoorWord2
namespace Go.Proofs.YtfeflghimnbhiaaDoor.Wd
set_option linter.unusedSimpArgs false
set_option linter.unusedVariables false
open Go.RowKit Go.Proofs.YtfeflghimnbhiaaDoor.A Go.Proofs.YtfeflghimnbhiaaDoor.Bits

theorem bv_andNot (x y : Int) : BitVec.ofInt 64 (Go.bits .andNot .i64 x y) = BitVec.ofInt 64 x &&& ~~~BitVec.ofInt 64 y := by rw [bits_andNot_def]; exact ofInt_wrap _
theorem low_and (x y m : Int) : Go.bits .and .i64 (Go.bits .and .i64 x y) m = Go.bits .and .i64 (Go.bits .and .i64 x m) (Go.bits .and .i64 y m) := by
  rw [bits_and_def (Go.bits .and .i64 x y) m, bits_and_def (Go.bits .and .i64 x m) _, bv_and, bv_and, bv_and]
  congr 3; apply BitVec.eq_of_getElem_eq; intro i hi
  simp only [BitVec.getElem_and]
  cases (BitVec.ofInt 64 x)[i] <;> cases (BitVec.ofInt 64 y)[i] <;> cases (BitVec.ofInt 64 m)[i] <;> rfl
theorem low_or (x y m : Int) : Go.bits .and .i64 (Go.bits .or .i64 x y) m = Go.bits .or .i64 (Go.bits .and .i64 x m) (Go.bits .and .i64 y m) := by
  rw [bits_and_def (Go.bits .or .i64 x y) m, bits_or_def (Go.bits .and .i64 x m) _, bv_or, bv_and, bv_and]
  congr 3; apply BitVec.eq_of_getElem_eq; intro i hi
  simp only [BitVec.getElem_and, BitVec.getElem_or]
  cases (BitVec.ofInt 64 x)[i] <;> cases (BitVec.ofInt 64 y)[i] <;> cases (BitVec.ofInt 64 m)[i] <;> rfl
theorem low_xor (x y m : Int) : Go.bits .and .i64 (Go.bits .xor .i64 x y) m = Go.bits .xor .i64 (Go.bits .and .i64 x m) (Go.bits .and .i64 y m) := by
  rw [bits_and_def (Go.bits .xor .i64 x y) m, bits_xor_def (Go.bits .and .i64 x m) _, bv_xor, bv_and, bv_and]
  congr 3; apply BitVec.eq_of_getElem_eq; intro i hi
  simp only [BitVec.getElem_and, BitVec.getElem_xor]
  cases (BitVec.ofInt 64 x)[i] <;> cases (BitVec.ofInt 64 y)[i] <;> cases (BitVec.ofInt 64 m)[i] <;> rfl
theorem low_andNot (x y m : Int) : Go.bits .and .i64 (Go.bits .andNot .i64 x y) m = Go.bits .andNot .i64 (Go.bits .and .i64 x m) (Go.bits .and .i64 y m) := by
  rw [bits_and_def (Go.bits .andNot .i64 x y) m, bits_andNot_def (Go.bits .and .i64 x m) _, bv_andNot, bv_and, bv_and]
  congr 3; apply BitVec.eq_of_getElem_eq; intro i hi
  simp only [BitVec.getElem_and, BitVec.getElem_not]
  cases (BitVec.ofInt 64 x)[i] <;> cases (BitVec.ofInt 64 y)[i] <;> cases (BitVec.ofInt 64 m)[i] <;> rfl
theorem mod_and (x y : Int) (w : Bool) : Go.bits .and .i64 (x % M w) (y % M w) = Go.bits .and .i64 x y % M w := by have h := low_and x y (M w - 1); rw [and_M (Go.bits .and .i64 x y), and_M x, and_M y] at h; exact h.symm
theorem mod_or (x y : Int) (w : Bool) : Go.bits .or .i64 (x % M w) (y % M w) = Go.bits .or .i64 x y % M w := by have h := low_or x y (M w - 1); rw [and_M (Go.bits .or .i64 x y), and_M x, and_M y] at h; exact h.symm
theorem mod_xor (x y : Int) (w : Bool) : Go.bits .xor .i64 (x % M w) (y % M w) = Go.bits .xor .i64 x y % M w := by have h := low_xor x y (M w - 1); rw [and_M (Go.bits .xor .i64 x y), and_M x, and_M y] at h; exact h.symm
theorem mod_andNot (x y : Int) (w : Bool) : Go.bits .andNot .i64 (x % M w) (y % M w) = Go.bits .andNot .i64 x y % M w := by have h := low_andNot x y (M w - 1); rw [and_M (Go.bits .andNot .i64 x y), and_M x, and_M y] at h; exact h.symm
theorem or_flc (x c : Int) (w : Bool) : Go.bits .or .i64 (fl x w) (c % 2) = fl x w + c % 2 := by
  rw [bit0 c]; unfold fl; generalize S x w = a; generalize Z x w = b; generalize decide (c % 2 = 1) = d
  cases a <;> cases b <;> cases d <;> decide +kernel
theorem cut_v (x : Int) (w : Bool) : alu_cut.f x w = some (x % M w) := by
  unfold alu_cut.f; cases w
  · rw [if_neg (by decide), and65535]; rfl
  · rw [if_pos rfl, and255]; rfl
theorem size_v (x : Int) (w : Bool) : emulatorref10_size.f x w = some (x % M w) := by
  unfold emulatorref10_size.f; cases w
  · rw [if_neg (by decide), and65535]; rfl
  · rw [if_pos rfl, and255]; rfl
theorem logic_v (r : Int) (w : Bool) (c : Int) : alu_logic.f r w c = some (r % M w, fl r w + c % 2) := by
  unfold alu_logic.f
  rw [cut_v]; simp only [Option.bind_some]
  rw [flags_v]; simp only [Option.bind_some]
  rw [and1, fl_mod, or_flc]
theorem subN_mod (a b c : Int) (w : Bool) : subN (a % M w) (b % M w) c w = subN a b c w := by unfold subN; rw [Int.emod_emod_of_dvd a (Int.dvd_refl _), Int.emod_emod_of_dvd b (Int.dvd_refl _)]
theorem sub_mod (a b c : Int) (w : Bool) : subP (a % M w) (b % M w) c w = subP a b c w := by unfold subP; rw [subN_mod, S_mod, S_mod]
theorem addN_mod (a b c : Int) (w : Bool) : addN (a % M w) (b % M w) c w = addN a b c w := by unfold addN; rw [Int.emod_emod_of_dvd a (Int.dvd_refl _), Int.emod_emod_of_dvd b (Int.dvd_refl _)]
theorem add_mod (a b c : Int) (w : Bool) : addP (a % M w) (b % M w) c w = addP a b c w := by unfold addP; rw [addN_mod, S_mod, S_mod]
theorem wr_flc (x c : Int) (w : Bool) : wrap64 (fl x w + c % 2) = fl x w + c % 2 := wrap_in _ (by have := fl_bd x w; omega) (by have := fl_bd x w; omega)
theorem sub_mod0 (a b c : Int) : subP (a % 65536) (b % 65536) c false = subP a b c false := sub_mod a b c false
theorem add_mod0 (a b c : Int) : addP (a % 65536) (b % 65536) c false = addP a b c false := add_mod a b c false

set_option maxHeartbeats 2000000 in
theorem double_v (k : Nat) (op : Int) (w : Bool) (s d c : Int) : emulatorref10_Double.f (k + 2) op w s d c = alu_Double.f op w s d c := by
  unfold emulatorref10_Double.f alu_Double.f alu_words.f
  rcases Decidable.em (op = 1) with rfl | n1
  · cases w <;> simp -implicitDefEqProofs only [emulatorref10_Double.j0, size_v, logic_v, rflags_v, Option.bind_some, if_true, if_false, Bool.false_eq_true, reduceIte, Int.reduceEq, fl_mod, and1, wr_flc, Int.reduceBEq, Int.reduceBNe]
  rcases Decidable.em (op = 2) with rfl | n2
  · cases w <;> simp -implicitDefEqProofs only [emulatorref10_Double.j0, size_v, sub_v, rsub_v, sub_mod, Option.bind_some, if_true, if_false, Bool.false_eq_true, reduceIte, Int.reduceEq, Int.reduceBEq, Int.reduceBNe]
  rcases Decidable.em (op = 3) with rfl | n3
  · cases w <;> simp -implicitDefEqProofs only [emulatorref10_Double.j0, size_v, logic_v, rflags_v, mod_and, Option.bind_some, if_true, if_false, Bool.false_eq_true, reduceIte, Int.reduceEq, fl_mod, and1, wr_flc, Int.reduceBEq, Int.reduceBNe]
  rcases Decidable.em (op = 4) with rfl | n4
  · cases w <;> simp -implicitDefEqProofs only [emulatorref10_Double.j0, size_v, logic_v, rflags_v, mod_andNot, Option.bind_some, if_true, if_false, Bool.false_eq_true, reduceIte, Int.reduceEq, fl_mod, and1, wr_flc, Int.reduceBEq, Int.reduceBNe]
  rcases Decidable.em (op = 5) with rfl | n5
  · cases w <;> simp -implicitDefEqProofs only [emulatorref10_Double.j0, size_v, logic_v, rflags_v, mod_or, Option.bind_some, if_true, if_false, Bool.false_eq_true, reduceIte, Int.reduceEq, fl_mod, and1, wr_flc, Int.reduceBEq, Int.reduceBNe]
  rcases Decidable.em (op = 6) with rfl | n6
  · cases w <;> simp -implicitDefEqProofs only [emulatorref10_Double.j0, size_v, add_v, radd_v, add_mod, Option.bind_some, if_true, if_false, Bool.false_eq_true, reduceIte, Int.reduceEq, Int.reduceBEq, Int.reduceBNe]
  rcases Decidable.em (op = 7) with rfl | n7
  · cases w <;> simp -implicitDefEqProofs only [emulatorref10_Double.j0, size_v, sub_v, rsub_v, sub_mod, Option.bind_some, if_true, if_false, Bool.false_eq_true, reduceIte, Int.reduceEq, Int.reduceBEq, Int.reduceBNe]
  rcases Decidable.em (op = 11) with rfl | n11
  · cases w <;> simp -implicitDefEqProofs only [emulatorref10_Double.j0, size_v, logic_v, rflags_v, mod_xor, Option.bind_some, if_true, if_false, Bool.false_eq_true, reduceIte, Int.reduceEq, fl_mod, and1, wr_flc, Int.reduceBEq, Int.reduceBNe]
  cases w <;> simp -implicitDefEqProofs only [emulatorref10_Double.j0, size_v, Option.bind_some, if_true, if_false, Bool.false_eq_true, reduceIte, n1, n2, n3, n4, n5, n6, n7, n11, beq_iff_eq]

/-! ### one operand -/
def movP (r : Int) (o w : Bool) : Int := fl r w + bi o 1 + bi (S r w != o) 2
theorem moved_v (r : Int) (o w : Bool) : alu_moved.f r (bi o 1) w = some (movP r o w) := by
  unfold alu_moved.f
  rw [flags_v]; simp only [Option.bind_some]
  unfold movP fl; generalize S r w = a; generalize Z r w = b
  cases a <;> cases b <;> cases o <;> decide +kernel
theorem rmoved_v (r : Int) (o w : Bool) : emulatorref10_moved.f r (bi o 1) w = some (movP r o w) := by
  unfold emulatorref10_moved.f
  rw [rflags_v]; simp only [Option.bind_some]
  unfold movP fl; generalize S r w = a; generalize Z r w = b
  cases a <;> cases b <;> cases o <;> decide +kernel
theorem kept_f (a b c d : Bool) (x : Int) : Go.bits .or .i64 (Go.bits .andNot .i64 (bi a 8 + bi b 4 + bi c 1 + bi d 2) 1) (x % 2) = bi a 8 + bi b 4 + bi d 2 + x % 2 := by
  rw [bit0 x]; generalize decide (x % 2 = 1) = e
  cases a <;> cases b <;> cases c <;> cases d <;> cases e <;> decide +kernel
theorem rkept_f (a b c d : Bool) (x : Int) : wrap64 (Go.bits .and .i64 (bi a 8 + bi b 4 + bi c 1 + bi d 2) 14 + x % 2) = bi a 8 + bi b 4 + bi d 2 + x % 2 := by
  rw [bit0 x]; generalize decide (x % 2 = 1) = e
  cases a <;> cases b <;> cases c <;> cases d <;> cases e <;> decide +kernel
theorem S_lt (v : Int) (w : Bool) (h0 : 0 ≤ v) (h1 : v < M w) : S v w = decide (M w / 2 ≤ v) := by
  cases w <;> simp only [M, S, Bool.false_eq_true, if_false, if_true] at * <;> congr 1 <;> apply propext <;> constructor <;> intro h <;> omega
theorem and_top (v : Int) (w : Bool) : Go.bits .and .i64 v (M w / 2) = bi (S v w) (M w / 2) := by
  cases w
  · show Go.bits .and .i64 v 32768 = _
    rw [and_32768, lsb15]; unfold S bi; simp only [Bool.false_eq_true, if_false]; rfl
  · show Go.bits .and .i64 v 128 = _
    rw [and_128, lsb7]; unfold S bi; simp only [if_true]; rfl
theorem half (w : Bool) : wrap64 (wrap64 (Int.tdiv (M w - 1) 2) + 1) = M w / 2 := by cases w <;> decide +kernel
theorem neg1 (w : Bool) : (-1 : Int) % M w = M w - 1 := by cases w <;> decide
theorem not_v (x : Int) (h0 : 0 ≤ x) (h1 : x < 65536) : Go.bits .xor .i64 (-1) x = -1 - x := by
  rw [bits_xor_def]
  have e : BitVec.ofInt 64 (-1) ^^^ BitVec.ofInt 64 x = ~~~BitVec.ofInt 64 x := by
    apply BitVec.eq_of_getElem_eq; intro i hi
    rw [BitVec.getElem_xor, BitVec.getElem_not, show BitVec.ofInt 64 (-1) = BitVec.allOnes 64 from by decide, BitVec.getElem_allOnes]
    simp
  rw [e, BitVec.toNat_not, ofInt_toNat]
  rw [IntKind.wrap_i64]
  omega
theorem swab_or (v : Int) (h0 : 0 ≤ v) (h1 : v < 65536) : Go.bits .or .i64 (v / 256) (v % 256 * 256) = v % 256 * 256 + v / 256 := by
  obtain ⟨n, rfl⟩ := Int.eq_ofNat_of_zero_le h0
  have e := Nat.two_pow_add_eq_or_of_lt (i := 8) (b := n / 256) (by omega) (n % 256)
  have c1 : (n : Int) / 256 = ((n / 256 : Nat) : Int) := by omega
  have c2 : (n : Int) % 256 * 256 = ((256 * (n % 256) : Nat) : Int) := by omega
  rw [c1, c2, nat_or _ _ (by omega) (by omega), Nat.or_comm]
  have e2 : 256 * (n % 256) ||| n / 256 = 256 * (n % 256) + n / 256 := by simpa using e.symm
  rw [e2]; omega
theorem fl0 (w : Bool) : fl 0 w = 4 := by cases w <;> decide +kernel
theorem or_fl1 (x : Int) (w : Bool) : Go.bits .or .i64 (fl x w) 1 = fl x w + 1 := by have := or_flc x 1 w; simpa using this
theorem wr_fl1 (x : Int) (w : Bool) : wrap64 (fl x w + 1) = fl x w + 1 := by have := wr_flc x 1 w; simpa using this
theorem addN_c (a b c : Int) (w : Bool) : addN a b (c % 2) w = addN a b c w := by unfold addN; rw [Int.emod_emod_of_dvd c (Int.dvd_refl _)]
theorem add_c (a b c : Int) (w : Bool) : addP a b (c % 2) w = addP a b c w := by unfold addP; rw [addN_c]
theorem subN_c (a b c : Int) (w : Bool) : subN a b (c % 2) w = subN a b c w := by unfold subN; rw [Int.emod_emod_of_dvd c (Int.dvd_refl _)]
theorem sub_c (a b c : Int) (w : Bool) : subP a b (c % 2) w = subP a b c w := by unfold subP; rw [subN_c]
theorem rotR_c (a c : Int) (l w : Bool) : rotR a (c % 2) l w = rotR a c l w := by unfold rotR; rw [Int.emod_emod_of_dvd c (Int.dvd_refl _)]
theorem rot_c (a c : Int) (l w : Bool) : rotP a (c % 2) l w = rotP a c l w := by unfold rotP; rw [rotR_c]
theorem mod_lt (v : Int) (w : Bool) : 0 ≤ v % M w ∧ v % M w < M w := ⟨Int.emod_nonneg _ (Int.ne_of_gt (M_pos w)), Int.emod_lt_of_pos _ (M_pos w)⟩
theorem single_f (k : Nat) (op : Int) (w : Bool) (v c : Int) : alu_Single.f k op w v c = alu_Single.j0 k op w (v % M w) c (M w / 2) := by
  unfold alu_Single.f; rw [cut_v]; simp only [Option.bind_some]; cases w <;> rfl
theorem asr_r (v : Int) (w : Bool) (h0 : 0 ≤ v) (h1 : v < M w) : Go.bits .or .i64 (v / 2) (Go.bits .and .i64 v (M w / 2)) = v / 2 + bi (S v w) (M w / 2) := by
  rw [and_top, or_high _ _ _ (by omega) (by have := M_le w; omega)]
theorem rasr_r (v : Int) (w : Bool) (h0 : 0 ≤ v) (h1 : v < M w) : wrap64 (wrap64 (Int.tdiv v 2) + Go.bits .and .i64 v (M w / 2)) = v / 2 + bi (S v w) (M w / 2) := by
  have := M_le w
  rw [and_top, Int.tdiv_eq_ediv_of_nonneg h0, wrap_in (v / 2) (by omega) (by omega)]
  exact wrap_in _ (by unfold bi; split <;> omega) (by unfold bi; split <;> omega)
theorem asl_c (v : Int) (w : Bool) (h0 : 0 ≤ v) (h1 : v < M w) : wrap64 (Int.tdiv v (M w / 2)) = bi (S v w) 1 := by
  rw [Int.tdiv_eq_ediv_of_nonneg h0, S_lt v w h0 h1]
  cases w <;> simp only [M, Bool.false_eq_true, if_false, if_true, bi, decide_eq_true_eq] at * <;> split <;> (rw [wrap_in _ (by omega) (by omega)]; omega)
theorem top_ne (w : Bool) : M w / 2 ≠ 0 := by cases w <;> decide
theorem wr2 (v : Int) (w : Bool) (h0 : 0 ≤ v) (h1 : v < M w) : wrap64 (v * 2) = 2 * v ∧ wrap64 (2 * v) = 2 * v := by
  have := M_le w
  constructor <;> rw [wrap_in _ (by omega) (by omega)] <;> omega
theorem swab_a (v : Int) (h0 : 0 ≤ v) (h1 : v < 65536) : Go.bits .or .i64 (v / 256) (wrap64 (Go.bits .and .i64 v 255 * 256)) = v % 256 * 256 + v / 256 := by
  rw [and255, wrap_in _ (by omega) (by omega), swab_or v h0 h1]
theorem swab_b (v : Int) (h0 : 0 ≤ v) (h1 : v < 65536) : wrap64 (wrap64 (Go.bits .and .i64 v 255 * 256) + wrap64 (Int.tdiv v 256)) = v % 256 * 256 + v / 256 := by
  rw [and255, Int.tdiv_eq_ediv_of_nonneg h0, wrap_in (v % 256 * 256) (by omega) (by omega), wrap_in (v / 256) (by omega) (by omega), wrap_in _ (by omega) (by omega)]
theorem or8 (c : Int) : Go.bits .or .i64 8 (c % 2) = 8 + c % 2 ∧ wrap64 (8 + c % 2) = 8 + c % 2 := by
  rw [bit0 c]; generalize decide (c % 2 = 1) = e
  cases e <;> decide +kernel
theorem or4c (c : Int) : Go.bits .or .i64 4 (c % 2) = 4 + c % 2 ∧ wrap64 (4 + c % 2) = 4 + c % 2 := by
  rw [bit0 c]; generalize decide (c % 2 = 1) = e
  cases e <;> decide +kernel
set_option maxRecDepth 20000 in
set_option maxHeartbeats 4000000 in
theorem single_v (k : Nat) (op : Int) (w : Bool) (v c : Int) : emulatorref10_Single.f (k + 3) op w v c = alu_Single.f (k + 3) op w v c := by
  rw [single_f]
  have hm := mod_lt v w
  unfold emulatorref10_Single.f alu_Single.j0
  rcases Decidable.em (op = 12) with rfl | n12
  · cases w <;> simp -implicitDefEqProofs only [emulatorref10_Single.j0, size_v, flags_v, fl0, Option.bind_some, if_true, if_false, Bool.false_eq_true, reduceIte, Int.reduceEq, Int.reduceBEq, Int.reduceBNe]
  rcases Decidable.em (op = 13) with rfl | n13
  · cases w <;> simp -implicitDefEqProofs only [emulatorref10_Single.j0, size_v, cut_v, flags_v, rflags_v, fl_mod, or_fl1, wr_fl1, Option.bind_some, if_true, if_false, Bool.false_eq_true, reduceIte, Int.reduceEq, Int.reduceBEq, Int.reduceBNe]
  rcases Decidable.em (op = 14) with rfl | n14
  · cases w <;> simp -implicitDefEqProofs only [emulatorref10_Single.j0, size_v, alu_kept.f, add_v, radd_v, addP, and1, kept_f, rkept_f, Option.bind_some, if_true, if_false, Bool.false_eq_true, reduceIte, Int.reduceEq, Int.reduceBEq, Int.reduceBNe]
  rcases Decidable.em (op = 15) with rfl | n15
  · cases w <;> simp -implicitDefEqProofs only [emulatorref10_Single.j0, size_v, alu_kept.f, sub_v, rsub_v, subP, and1, kept_f, rkept_f, Option.bind_some, if_true, if_false, Bool.false_eq_true, reduceIte, Int.reduceEq, Int.reduceBEq, Int.reduceBNe]
  rcases Decidable.em (op = 16) with rfl | n16
  · cases w <;> simp -implicitDefEqProofs only [emulatorref10_Single.j0, size_v, sub_v, rsub_v, Option.bind_some, if_true, if_false, Bool.false_eq_true, reduceIte, Int.reduceEq, Int.reduceBEq, Int.reduceBNe]
  rcases Decidable.em (op = 17) with rfl | n17
  · cases w <;> simp -implicitDefEqProofs only [emulatorref10_Single.j0, size_v, add_v, radd_v, and1, add_c, Option.bind_some, if_true, if_false, Bool.false_eq_true, reduceIte, Int.reduceEq, Int.reduceBEq, Int.reduceBNe]
  rcases Decidable.em (op = 18) with rfl | n18
  · cases w <;> simp -implicitDefEqProofs only [emulatorref10_Single.j0, size_v, sub_v, rsub_v, and1, sub_c, Option.bind_some, if_true, if_false, Bool.false_eq_true, reduceIte, Int.reduceEq, Int.reduceBEq, Int.reduceBNe]
  rcases Decidable.em (op = 19) with rfl | n19
  · cases w <;> simp -implicitDefEqProofs only [emulatorref10_Single.j0, size_v, flags_v, rflags_v, Option.bind_some, if_true, if_false, Bool.false_eq_true, reduceIte, Int.reduceEq, Int.reduceBEq, Int.reduceBNe]
  rcases Decidable.em (op = 20) with rfl | n20
  · cases w <;> simp -implicitDefEqProofs only [emulatorref10_Single.j0, alu_Single.j1, size_v, rot_v, rrot_v, rot_c, and1, Option.bind_some, if_true, if_false, Bool.false_eq_true, reduceIte, Int.reduceEq, Int.reduceBEq, Int.reduceBNe]
  rcases Decidable.em (op = 21) with rfl | n21
  · cases w <;> simp -implicitDefEqProofs only [emulatorref10_Single.j0, alu_Single.j1, size_v, rot_v, rrot_v, rot_c, and1, Option.bind_some, if_true, if_false, Bool.false_eq_true, reduceIte, Int.reduceEq, Int.reduceBEq, Int.reduceBNe]
  rcases Decidable.em (op = 22) with rfl | n22
  · have e : (if w = true then (if (22 : Int) = 24 then emulatorref10_Single.j0 (k + 3) 22 w v c true else emulatorref10_Single.j0 (k + 3) 22 w v c ((22 : Int) == 25)) else emulatorref10_Single.j0 (k + 3) 22 w v c false) = emulatorref10_Single.j0 (k + 3) 22 w v c false := by cases w <;> rfl
    rw [e]
    simp -implicitDefEqProofs only [emulatorref10_Single.j0, alu_Single.j1, size_v, neg1, half, rasr_r _ _ hm.1 hm.2, asr_r _ _ hm.1 hm.2, and1, Option.bind_some, if_true, if_false, Bool.false_eq_true, reduceIte, Int.reduceEq, Int.reduceBEq, Int.reduceBNe]
    rw [bit0 (v % M w), moved_v, rmoved_v]
  rcases Decidable.em (op = 23) with rfl | n23
  · have e : (if w = true then (if (23 : Int) = 24 then emulatorref10_Single.j0 (k + 3) 23 w v c true else emulatorref10_Single.j0 (k + 3) 23 w v c ((23 : Int) == 25)) else emulatorref10_Single.j0 (k + 3) 23 w v c false) = emulatorref10_Single.j0 (k + 3) 23 w v c false := by cases w <;> rfl
    rw [e]
    simp -implicitDefEqProofs only [emulatorref10_Single.j0, alu_Single.j1, size_v, cut_v, neg1, half, (wr2 _ _ hm.1 hm.2).1, (wr2 _ _ hm.1 hm.2).2, asl_c _ _ hm.1 hm.2, and_top, top_ne, rmoved_v, Option.bind_some, if_true, if_false, Bool.false_eq_true, reduceIte, Int.reduceEq, Int.reduceBEq, Int.reduceBNe]
    have m0 := moved_v (2 * (v % M w) % M w) false w
    have m1 := moved_v (2 * (v % M w) % M w) true w
    cases S (v % M w) w
    · rw [if_pos (show bi false (M w / 2) = 0 from rfl)]
      rw [show bi false 1 = 0 from rfl] at m0
      rw [m0]; rfl
    · rw [if_neg (show ¬ bi true (M w / 2) = 0 from top_ne w)]
      rw [show bi true 1 = 1 from rfl] at m1
      rw [m1]; rfl
  rcases Decidable.em (op = 24) with rfl | n24
  · cases w
    · simp -implicitDefEqProofs only [emulatorref10_Single.j0, alu_Single.j1, alu_wordOnly.f, size_v, swab_a _ hm.1 hm.2, swab_b _ hm.1 hm.2, flags_v, rflags_v, Option.bind_some, if_true, if_false, Bool.false_eq_true, reduceIte, Int.reduceEq, Int.reduceBEq, Int.reduceBNe]
    · simp -implicitDefEqProofs only [emulatorref10_Single.j0, alu_Single.j1, alu_wordOnly.f, Option.bind_some, if_true, if_false, Bool.false_eq_true, reduceIte, Int.reduceEq, Int.reduceBEq, Int.reduceBNe]
  rcases Decidable.em (op = 25) with rfl | n25
  · cases w
    · simp -implicitDefEqProofs only [emulatorref10_Single.j0, alu_Single.j1, alu_wordOnly.f, alu_wordOnly.j0, size_v, and1, or8, or4c, bne_iff_ne, ne_eq, Option.bind_some, if_true, if_false, Bool.false_eq_true, reduceIte, Int.reduceEq, Int.reduceBEq, Int.reduceBNe]
      by_cases h : Go.bits .and .i64 c 8 = 0 <;> simp -implicitDefEqProofs only [h, not_true_eq_false, not_false_eq_true, if_true, if_false, Option.bind_some]
    · simp -implicitDefEqProofs only [emulatorref10_Single.j0, alu_Single.j1, alu_wordOnly.f, Option.bind_some, if_true, if_false, Bool.false_eq_true, reduceIte, Int.reduceEq, Int.reduceBEq, Int.reduceBNe]
  have b20 : (op == 20) = false := beq_eq_false_iff_ne.mpr n20
  have b21 : (op == 21) = false := beq_eq_false_iff_ne.mpr n21
  have b25 : (op == 25) = false := beq_eq_false_iff_ne.mpr n25
  cases w <;> simp -implicitDefEqProofs only [emulatorref10_Single.j0, alu_Single.j1, alu_wordOnly.f, alu_wordOnly.j0, size_v, Option.bind_some, if_true, if_false, Bool.false_eq_true, reduceIte, n12, n13, n14, n15, n16, n17, n18, n19, n20, n21, n22, n23, n24, n25, b20, b21, b25]

/-! ### multiplication, division, shift -/
theorem S_m0 (a : Int) : S (a % 65536) false = S a false := S_mod a false
theorem sv_m0 (a : Int) : sv (a % 65536) false = sv a false := sv_of _ _ (by omega)
theorem prod_m (a b : Int) : prod (a % 65536) b = prod a b := by unfold prod; rw [sv_m0]
theorem mul_m (a b : Int) : mulP (a % 65536) b = mulP a b := by unfold mulP; rw [prod_m]
theorem num_m (a b : Int) : num (a % 65536) (b % 65536) = num a b := by unfold num; rw [sv_m0, Int.emod_emod_of_dvd b (Int.dvd_refl _)]
theorem div_m (a b c : Int) : divP (a % 65536) (b % 65536) c = divP a b c := by unfold divP; rw [num_m]
theorem shift_m (a n : Int) : shiftP (a % 65536) n = shiftP a n := by simp only [shiftP, Int.emod_emod_of_dvd _ (Int.dvd_refl _)]
theorem mod_M0 (a : Int) : a % M false = a % 65536 := rfl
theorem long_v (k : Nat) (hk : 36 ≤ k) (op a b n c : Int) : emulatorref10_Long.f k op a b n c = alu_Long.f k op a b n c := by
  obtain ⟨j, rfl⟩ : ∃ j, k = j + 3 := ⟨k - 3, by omega⟩
  unfold emulatorref10_Long.f alu_Long.f
  rw [cut_v, cut_v]; simp only [Option.bind_some, mod_M0]
  rcases Decidable.em (op = 8) with rfl | n8
  · rw [if_pos rfl, if_pos rfl, mul_v, rmul_v, mul_m]
  rw [if_neg n8, if_neg n8]
  rcases Decidable.em (op = 9) with rfl | n9
  · rw [if_pos rfl, if_pos rfl, div_v, rdiv_v (j + 2), div_m, and65535, and65535]
  rw [if_neg n9, if_neg n9]
  rcases Decidable.em (op = 10) with rfl | n10
  · rw [if_pos rfl, if_pos rfl, shift_v _ (by omega), rshift_v _ hk, shift_m, and65535]
  rw [if_neg n10, if_neg n10]
end Go.Proofs.YtfeflghimnbhiaaDoor.Wd
namespace Go.Proofs.YtfeflghimnbhiaaDoor.Plain
set_option linter.unusedSimpArgs false
set_option linter.unusedVariables false
open Go.RowKit Go.Proofs.YtfeflghimnbhiaaDoor.A Go.Proofs.YtfeflghimnbhiaaDoor.Bits Go.Proofs.YtfeflghimnbhiaaDoor.Wd Go.Proofs.YtfeflghimnbhiaaDoorW.PrintMore Go.Proofs.YtfeflghimnbhiaaDoorW.PrintWords

theorem alive_ge (n : Nat) : emulatorlaw10_alive.f (40 + n) = some true := by
  induction n with
  | zero => exact alive_K
  | succ n ih => exact emulatorlaw10_alive.mono (40 + n) true ih

theorem double_some (op : Int) (w : Bool) (s d c : Int) : ∃ x, alu_Double.f op w s d c = some x := by
  unfold alu_Double.f alu_words.f
  simp only [logic_v, add_v, sub_v, Option.bind_some]
  repeat' split
  all_goals exact ⟨_, rfl⟩
theorem only_some (k : Nat) (op : Int) (w : Bool) (v c : Int) : ∃ x, alu_wordOnly.f (k + 1) op w v c = some x := by
  unfold alu_wordOnly.f alu_wordOnly.j0
  simp only [flags_v, Option.bind_some]
  repeat' split
  all_goals exact ⟨_, rfl⟩
theorem moved_some (r o : Int) (w : Bool) : ∃ x, alu_moved.f r o w = some x := by
  unfold alu_moved.f
  simp only [flags_v, Option.bind_some]
  repeat' split
  all_goals exact ⟨_, rfl⟩
theorem single1_some (k : Nat) (op : Int) (w : Bool) (v c t x : Int) (y : Int) (b : Bool) : ∃ r, alu_Single.j1 (k + 2) op w v c t x y b = some r := by
  unfold alu_Single.j1
  obtain ⟨a1, e1⟩ := only_some k op w v c
  obtain ⟨a2, e2⟩ := moved_some (Go.bits .or .i64 (v / 2) (Go.bits .and .i64 v t)) (Go.bits .and .i64 v 1) w
  obtain ⟨a3, e3⟩ := moved_some (wrap64 (v * 2) % M w) 0 w
  obtain ⟨a4, e4⟩ := moved_some (wrap64 (v * 2) % M w) 1 w
  simp only [rot_v, cut_v, e1, e2, e3, e4, Option.bind_some]
  repeat' split
  all_goals exact ⟨_, rfl⟩
theorem single_some (k : Nat) (op : Int) (w : Bool) (v c : Int) : ∃ x, alu_Single.f (k + 3) op w v c = some x := by
  rw [single_f]; unfold alu_Single.j0
  have h1 := single1_some k op w (v % M w) c (M w / 2) (Go.bits .and .i64 c 1) op (op == 20)
  have h2 := single1_some k op w (v % M w) c (M w / 2) (Go.bits .and .i64 c 1) op (op == 21)
  simp only [alu_kept.f, add_v, sub_v, cut_v, flags_v, Option.bind_some]
  repeat' split
  all_goals first | exact ⟨_, rfl⟩ | exact h1 | exact h2
theorem taken_some (op c : Int) : ∃ x, alu_Taken.f op c = some x := by
  have h : (alu_Taken.f op c).isSome = true := by
    unfold alu_Taken.f
    simp only [apply_ite Option.isSome, Option.isSome_some, ite_self]
  exact Option.isSome_iff_exists.1 h
theorem long_some (k : Nat) (hk : 36 ≤ k) (op a b n c : Int) : ∃ x, alu_Long.f k op a b n c = some x := by
  unfold alu_Long.f
  simp only [cut_v, mul_v, div_v, shift_v k (by omega), Option.bind_some]
  repeat' split
  all_goals exact ⟨_, rfl⟩

theorem AluDoubles (op : Int) (w : Bool) (a b c d : Int) : emulatorlaw10_AluDoubles.f 40 op w a b c d = some true := by
  obtain ⟨x, e⟩ := double_some op w a b d
  unfold emulatorlaw10_AluDoubles.f
  rw [double_v 38, e, alive_K]
  simp -implicitDefEqProofs only [Option.bind_some, if_true, beq_self_eq_true]
theorem AluSingles (op : Int) (w : Bool) (a b c d : Int) : emulatorlaw10_AluSingles.f 40 op w a b c d = some true := by
  obtain ⟨x, e⟩ := single_some 37 op w a d
  unfold emulatorlaw10_AluSingles.f
  rw [single_v 37, e, alive_K]
  simp -implicitDefEqProofs only [Option.bind_some, if_true, beq_self_eq_true]
theorem AluBranches (op c : Int) : emulatorlaw10_AluBranches.f 40 op c = some true := by
  obtain ⟨x, e⟩ := taken_some op c
  have e' : emulatorref10_Taken.f op c = alu_Taken.f op c := rfl
  unfold emulatorlaw10_AluBranches.f
  rw [e', e, alive_K]
  simp -implicitDefEqProofs only [Option.bind_some, if_true, beq_self_eq_true]
theorem AluLongs (op : Int) (w : Bool) (a b c d : Int) : emulatorlaw10_AluLongs.f 40 op w a b c d = some true := by
  obtain ⟨x, e⟩ := long_some 40 (by decide) op a b c d
  unfold emulatorlaw10_AluLongs.f
  rw [long_v 40 (by decide), e, alive_K]
  simp -implicitDefEqProofs only [Option.bind_some, if_true, beq_self_eq_true]

/-! ### opposite branches -/
theorem zero_or (x : Int) : (x = 0 ∧ (x != 0) = false) ∨ (¬ x = 0 ∧ (x != 0) = true) := by
  by_cases h : x = 0
  · exact .inl ⟨h, by subst h; rfl⟩
  · exact .inr ⟨h, bne_iff_ne.2 h⟩
theorem pair (k : Nat) (c op : Int) (h : op = 27 ∨ op = 29 ∨ op = 31 ∨ op = 33 ∨ op = 35 ∨ op = 37 ∨ op = 39) : emulatorlaw10_AluPairs.l0 (k + 1) c op = emulatorlaw10_AluPairs.l0 k c (op + 2) := by
  have hb : (alu_Taken.f op c).bind (fun s => (alu_Taken.f (op + 1) c).bind fun t => some (s == t)) = some false := by
    have h1 := zero_or (Go.bits .and .i64 c 1)
    have h2 := zero_or (Go.bits .and .i64 c 2)
    have h4 := zero_or (Go.bits .and .i64 c 4)
    have h8 := zero_or (Go.bits .and .i64 c 8)
    rcases h with rfl | rfl | rfl | rfl | rfl | rfl | rfl <;> unfold alu_Taken.f <;>
      simp -implicitDefEqProofs only [if_true, if_false, reduceIte, Int.reduceEq, Int.reduceAdd, Option.bind_some] <;>
      rcases h1 with ⟨a1, b1⟩ | ⟨a1, b1⟩ <;> rcases h2 with ⟨a2, b2⟩ | ⟨a2, b2⟩ <;> rcases h4 with ⟨a4, b4⟩ | ⟨a4, b4⟩ <;> rcases h8 with ⟨a8, b8⟩ | ⟨a8, b8⟩ <;>
      simp only [a1, b1, a2, b2, a4, b4, a8, b8, if_true, if_false, not_true_eq_false, not_false_eq_true, Option.bind_some] <;> rfl
  obtain ⟨s, es⟩ := taken_some op c
  obtain ⟨t, et⟩ := taken_some (op + 1) c
  rw [es, et] at hb
  have hst : (s == t) = false := Option.some.inj hb
  have w1 : wrap64 (op + 1) = op + 1 := wrap_in _ (by omega) (by omega)
  have w2 : wrap64 (op + 2) = op + 2 := wrap_in _ (by omega) (by omega)
  rw [emulatorlaw10_AluPairs.l0, if_pos (by omega), w1, w2, es, et]
  simp only [Option.bind_some]
  rw [if_neg (by rw [hst]; decide)]
theorem AluPairs (c : Int) : emulatorlaw10_AluPairs.f 50 c = some true := by
  have ha : emulatorlaw10_alive.f 42 = some true := alive_ge 2
  have ht : alu_Taken.f 26 c = some true := rfl
  show emulatorlaw10_AluPairs.l0 50 c 27 = some true
  rw [pair 49 c 27 (by decide), show (27 : Int) + 2 = 29 from rfl, pair 48 c 29 (by decide), show (29 : Int) + 2 = 31 from rfl, pair 47 c 31 (by decide), show (31 : Int) + 2 = 33 from rfl, pair 46 c 33 (by decide),
    show (33 : Int) + 2 = 35 from rfl, pair 45 c 35 (by decide), show (35 : Int) + 2 = 37 from rfl, pair 44 c 37 (by decide), show (37 : Int) + 2 = 39 from rfl, pair 43 c 39 (by decide), show (39 : Int) + 2 = 41 from rfl]
  show emulatorlaw10_AluPairs.l0 (42 + 1) c 41 = some true
  rw [emulatorlaw10_AluPairs.l0, if_neg (by decide), ht]
  simp only [Option.bind_some, if_true]
  rw [ha]; rfl

/-! ### comparison -/
def F (n z c v : Bool) : Int := bi n 8 + bi z 4 + bi c 1 + bi v 2
theorem t40 (n z c v : Bool) : alu_Taken.f 40 (F n z c v) = some c := by cases n <;> cases z <;> cases c <;> cases v <;> decide +kernel
theorem t36 (n z c v : Bool) : alu_Taken.f 36 (F n z c v) = some (c || z) := by cases n <;> cases z <;> cases c <;> cases v <;> decide +kernel
theorem t28 (n z c v : Bool) : alu_Taken.f 28 (F n z c v) = some z := by cases n <;> cases z <;> cases c <;> cases v <;> decide +kernel
theorem t30 (n z c v : Bool) : alu_Taken.f 30 (F n z c v) = some (n != v) := by cases n <;> cases z <;> cases c <;> cases v <;> decide +kernel
theorem t31 (n z c v : Bool) : alu_Taken.f 31 (F n z c v) = some (!z && !(n != v)) := by cases n <;> cases z <;> cases c <;> cases v <;> decide +kernel
theorem t32 (n z c v : Bool) : alu_Taken.f 32 (F n z c v) = some (z || (n != v)) := by cases n <;> cases z <;> cases c <;> cases v <;> decide +kernel
theorem C_lt (a b : Int) (w : Bool) : decide (subN a b 0 w < 0) = decide (a % M w < b % M w) := by unfold subN; congr 1; apply propext; omega
theorem Z_eq (a b : Int) (w : Bool) : Z (subN a b 0 w) w = decide (a % M w = b % M w) := by
  unfold subN Z; cases w <;> simp only [M, Bool.false_eq_true, if_false, if_true] <;> congr 1 <;> apply propext <;> omega
theorem N_lt (a b : Int) (w : Bool) : (S (subN a b 0 w) w != ((S a w != S b w) && (S a w != S (subN a b 0 w) w))) = decide ((a % M w + M w / 2) % M w < (b % M w + M w / 2) % M w) := by
  cases w
  · unfold subN S; simp only [M, Bool.false_eq_true, if_false]
    by_cases h1 : 32768 ≤ a % 65536 <;> by_cases h2 : 32768 ≤ b % 65536 <;> by_cases h3 : 32768 ≤ (a % 65536 - b % 65536 - 0 % 2) % 65536 <;>
      simp only [h1, h2, h3, decide_true, decide_false] <;> symm <;> first | (apply decide_eq_true; omega) | (apply decide_eq_false; omega)
  · unfold subN S; simp only [M, if_true]
    by_cases h1 : 128 ≤ a % 256 <;> by_cases h2 : 128 ≤ b % 256 <;> by_cases h3 : 128 ≤ (a % 256 - b % 256 - 0 % 2) % 256 <;>
      simp only [h1, h2, h3, decide_true, decide_false] <;> symm <;> first | (apply decide_eq_true; omega) | (apply decide_eq_false; omega)
theorem half1 (w : Bool) : Int.tdiv (M w - 1) 2 = M w / 2 - 1 := by cases w <;> decide
theorem ord_v (x : Int) (w : Bool) : Go.bits .and .i64 (wrap64 (wrap64 (Go.bits .and .i64 x (M w - 1) + wrap64 (Int.tdiv (M w - 1) 2)) + 1)) (M w - 1) = (x % M w + M w / 2) % M w := by
  have h := mod_lt x w
  have := M_le w
  rw [and_M, half1, and_M, wrap_in (M w / 2 - 1) (by omega) (by omega), wrap_in (x % M w + (M w / 2 - 1)) (by omega) (by omega), wrap_in _ (by omega) (by omega)]
  congr 1; omega
theorem s_eq (a b : Int) (w : Bool) : (a % M w + M w / 2) % M w = (b % M w + M w / 2) % M w ↔ a % M w = b % M w := by
  cases w <;> simp only [M, Bool.false_eq_true, if_false, if_true] <;> omega
theorem cmp_v (a b c : Int) (w : Bool) : alu_Double.f 2 w a b c = some ((subP a b 0 w).1, F (S (subN a b 0 w) w) (decide (a % M w = b % M w)) (decide (a % M w < b % M w)) ((S a w != S b w) && (S a w != S (subN a b 0 w) w)), false) := by
  unfold alu_Double.f
  rw [if_neg (by decide), if_neg (by decide), if_neg (by decide), if_neg (by decide), if_pos rfl, sub_v, ← Z_eq, ← C_lt]
  rfl
theorem compare0 (a b c : Int) (w : Bool) : emulatorlaw10_AluCompares.j0 42 a b c w (M w - 1) = some true := by
  have ha : emulatorlaw10_alive.f 40 = some true := alive_K
  rw [emulatorlaw10_AluCompares.j0, cmp_v]
  simp only [Option.bind_some, ord_v]
  rw [t40, t36, t28, and_M, and_M]
  simp only [Option.bind_some, Bool.false_eq_true, if_false]
  have e1 : ((decide (a % M w < b % M w)) != (decide (a % M w < b % M w))) = false := bne_self_eq_false _
  have e2 : ((decide (a % M w < b % M w) || decide (a % M w = b % M w)) != decide (a % M w ≤ b % M w)) = false := by
    rw [← Bool.decide_or, bne_eq_false_iff_eq]; congr 1; apply propext; omega
  have e3 : (decide (a % M w = b % M w) != (a % M w == b % M w)) = false := by rw [bne_eq_false_iff_eq]; rfl
  rw [e1, e2, e3]
  simp only [Bool.false_eq_true, if_false]
  rw [emulatorlaw10_AluCompares.j1, t30, t31, t32, N_lt]
  simp only [Option.bind_some, Bool.false_eq_true, if_false]
  have hq := s_eq a b w
  generalize (a % M w + M w / 2) % M w = s at *
  generalize (b % M w + M w / 2) % M w = t at *
  have hz : decide (a % M w = b % M w) = decide (s = t) := by congr 1; exact propext hq.symm
  have g1 : (decide (s < t) == decide (s < t)) = true := beq_self_eq_true _
  have g2 : ((!decide (a % M w = b % M w) && !decide (s < t)) == decide (s > t)) = true := by
    rw [hz, beq_iff_eq, ← decide_not, ← decide_not, ← Bool.decide_and]; congr 1; apply propext; omega
  have g3 : ((decide (a % M w = b % M w) || decide (s < t)) == decide (s ≤ t)) = true := by
    rw [hz, beq_iff_eq, ← Bool.decide_or]; congr 1; apply propext; omega
  rw [g1, g2, g3, if_pos rfl, if_pos rfl, if_pos rfl, ha]
  rfl
theorem AluCompares (a b c : Int) (w : Bool) : emulatorlaw10_AluCompares.f 42 a b c w = some true := by
  unfold emulatorlaw10_AluCompares.f
  cases w
  · exact compare0 a b c false
  · exact compare0 a b c true

/-! ### there and back -/
theorem com_v (k : Nat) (w : Bool) (a c : Int) : ∃ y, alu_Single.f (k + 3) 13 w a c = some ((-1 - a) % M w, y) := by
  have h := mod_lt a w
  have hm := M_le w
  rw [single_f]; unfold alu_Single.j0
  simp -implicitDefEqProofs only [cut_v, flags_v, Option.bind_some, if_true, if_false, reduceIte, Int.reduceEq]
  exact ⟨_, congrArg (fun z => some (z, _)) (by rw [not_v _ h.1 (by omega), show (-1 - a % M w) % M w = (-1 - a) % M w from Int.sub_emod_emod _ _ _])⟩
theorem neg_v (k : Nat) (w : Bool) (a c : Int) : ∃ y, alu_Single.f (k + 3) 16 w a c = some ((0 - a) % M w, y) := by
  rw [single_f]; unfold alu_Single.j0
  simp -implicitDefEqProofs only [sub_v, subP, subN, Option.bind_some, if_true, if_false, reduceIte, Int.reduceEq]
  exact ⟨_, congrArg (fun z => some (z, _)) (show (0 % M w - a % M w % M w - 0 % 2) % M w = (0 - a) % M w by cases w <;> simp only [M, Bool.false_eq_true, if_false, if_true] <;> omega)⟩
theorem inc_v (k : Nat) (w : Bool) (a c : Int) : ∃ y, alu_Single.f (k + 3) 14 w a c = some ((a + 1) % M w, y) := by
  rw [single_f]; unfold alu_Single.j0
  simp -implicitDefEqProofs only [add_v, alu_kept.f, addP, addN, Option.bind_some, if_true, if_false, reduceIte, Int.reduceEq]
  exact ⟨_, congrArg (fun z => some (z, _)) (show (a % M w % M w + 1 % M w + 0 % 2) % M w = (a + 1) % M w by cases w <;> simp only [M, Bool.false_eq_true, if_false, if_true] <;> omega)⟩
theorem dec_v (k : Nat) (w : Bool) (a c : Int) : ∃ y, alu_Single.f (k + 3) 15 w a c = some ((a - 1) % M w, y) := by
  rw [single_f]; unfold alu_Single.j0
  simp -implicitDefEqProofs only [sub_v, alu_kept.f, subP, subN, Option.bind_some, if_true, if_false, reduceIte, Int.reduceEq]
  exact ⟨_, congrArg (fun z => some (z, _)) (show (a % M w % M w - 1 % M w - 0 % 2) % M w = (a - 1) % M w by cases w <;> simp only [M, Bool.false_eq_true, if_false, if_true] <;> omega)⟩
theorem swab_v (k : Nat) (a c : Int) : ∃ y, alu_Single.f (k + 3) 24 false a c = some (a % 65536 % 256 * 256 + a % 65536 / 256, y) := by
  rw [single_f]; unfold alu_Single.j0 alu_Single.j1 alu_wordOnly.f
  have h := mod_lt a false
  simp -implicitDefEqProofs only [flags_v, Option.bind_some, if_true, if_false, reduceIte, Int.reduceEq, Int.reduceBEq, Bool.false_eq_true]
  exact ⟨_, congrArg (fun z => some (z, _)) (swab_a _ h.1 h.2)⟩
theorem add2_v (b a c : Int) : ∃ y, alu_Double.f 6 false b a c = some ((a + b) % 65536, y) := by
  unfold alu_Double.f alu_words.f
  simp -implicitDefEqProofs only [add_v, addP, addN, Option.bind_some, if_true, if_false, reduceIte, Int.reduceEq, Bool.false_eq_true]
  exact ⟨_, congrArg (fun z => some (z, _)) (show (a % M false + b % M false + 0 % 2) % M false = (a + b) % 65536 by simp only [M, Bool.false_eq_true, if_false]; omega)⟩
theorem sub2_v (b a c : Int) : ∃ y, alu_Double.f 7 false b a c = some ((a - b) % 65536, y) := by
  unfold alu_Double.f alu_words.f
  simp -implicitDefEqProofs only [sub_v, subP, subN, Option.bind_some, if_true, if_false, reduceIte, Int.reduceEq, Bool.false_eq_true]
  exact ⟨_, congrArg (fun z => some (z, _)) (show (a % M false - b % M false - 0 % 2) % M false = (a - b) % 65536 by simp only [M, Bool.false_eq_true, if_false]; omega)⟩
theorem swab2 (a : Int) : (a % 65536 % 256 * 256 + a % 65536 / 256) % 65536 % 256 * 256 + (a % 65536 % 256 * 256 + a % 65536 / 256) % 65536 / 256 = a % 65536 := by
  have h0 : 0 ≤ a % 65536 ∧ a % 65536 < 65536 := by omega
  generalize a % 65536 = v at *
  have h1 : (v % 256 * 256 + v / 256) % 65536 = v % 256 * 256 + v / 256 := by omega
  rw [h1]
  have h2 : (v % 256 * 256 + v / 256) % 256 = v / 256 := by omega
  have h3 : (v % 256 * 256 + v / 256) / 256 = v % 256 := by omega
  rw [h2, h3]; omega
theorem undo0 (a b c : Int) (w : Bool) : emulatorlaw10_AluUndo.j0 42 a b c w (M w - 1) = some true := by
  have ha : emulatorlaw10_alive.f 40 = some true := alive_K
  obtain ⟨y1, e1⟩ := com_v 38 w a c
  obtain ⟨y2, e2⟩ := com_v 38 w ((-1 - a) % M w) c
  obtain ⟨y3, e3⟩ := neg_v 38 w a c
  obtain ⟨y4, e4⟩ := neg_v 38 w ((0 - a) % M w) c
  obtain ⟨y5, e5⟩ := inc_v 38 w a c
  obtain ⟨y6, e6⟩ := dec_v 38 w ((a + 1) % M w) c
  rw [emulatorlaw10_AluUndo.j0, e1]; simp only [Option.bind_some]
  rw [e2]; simp only [Option.bind_some]
  rw [e3]; simp only [Option.bind_some]
  rw [e4]; simp only [Option.bind_some]
  rw [e5]; simp only [Option.bind_some]
  rw [e6]; simp only [Option.bind_some]
  rw [and_M]
  have q1 : (-1 - (-1 - a) % M w) % M w = a % M w := by cases w <;> simp only [M, Bool.false_eq_true, if_false, if_true] <;> omega
  have q2 : (0 - (0 - a) % M w) % M w = a % M w := by cases w <;> simp only [M, Bool.false_eq_true, if_false, if_true] <;> omega
  have q3 : ((a + 1) % M w - 1) % M w = a % M w := by cases w <;> simp only [M, Bool.false_eq_true, if_false, if_true] <;> omega
  rw [if_pos q1, if_pos q2, q3, bne_self_eq_false, emulatorlaw10_AluUndo.j1]
  simp only [Bool.false_eq_true, if_false]
  obtain ⟨y1, e1⟩ := swab_v 37 a c
  obtain ⟨y2, e2⟩ := swab_v 37 (a % 65536 % 256 * 256 + a % 65536 / 256) c
  obtain ⟨y3, e3⟩ := add2_v b a c
  obtain ⟨y4, e4⟩ := sub2_v b ((a + b) % 65536) c
  rw [e1]; simp only [Option.bind_some]
  rw [e2]; simp only [Option.bind_some]
  rw [e3]; simp only [Option.bind_some]
  rw [e4]; simp only [Option.bind_some]
  rw [and65535, if_pos (swab2 a), if_pos (by omega), ha]
  rfl
theorem AluUndo (a b c : Int) (w : Bool) : emulatorlaw10_AluUndo.f 42 a b c w = some true := by
  unfold emulatorlaw10_AluUndo.f
  cases w
  · exact undo0 a b c false
  · exact undo0 a b c true
end Go.Proofs.YtfeflghimnbhiaaDoor.Plain
