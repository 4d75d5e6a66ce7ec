/- Package word's Shift and Rotate and the reference's, as printed, come to these numbers. Numbers alone, no memory. Conditions: none (every int). -/
import Derived.Test.YtfeflghimnbhiaaDoorWord
namespace Go.Proofs.YtfeflghimnbhiaaDoor.Wd
set_option linter.unusedSimpArgs false
set_option linter.unusedVariables false
open Go.RowKit Go.Proofs.YtfeflghimnbhiaaDoor.A Go.Proofs.YtfeflghimnbhiaaDoor.Bits

/-- to the left, bit by bit: the word, C, V -/
def shlP : Nat → Int → Int → Bool → Bool → Int × Bool × Bool
  | 0, _, v, c, o => (v, c, o)
  | n + 1, v0, v, c, o => shlP n v0 ((2 * v) % 65536) (S v false) (o || (S (2 * v) false != S v0 false))
/-- to the right: the word, C -/
def shrP : Nat → Int → Bool → Int × Bool
  | 0, v, c => (v, c)
  | n + 1, v, c => shrP n (v / 2 + bi (S v false) 32768) (decide (v % 2 = 1))
def out3 (v : Int) (c o : Bool) : Int × Int := (v, fl v false + bi o 2 + bi c 1)
def cnt (n : Int) : Int := (n + 32) % 64 - 32
def shiftP (a n : Int) : Int × Int :=
  if 0 ≤ cnt n then (fun r => out3 r.1 r.2.1 r.2.2) (shlP (cnt n).toNat (a % 65536) (a % 65536) false false)
  else (fun r => out3 r.1 r.2 false) (shrP (-cnt n).toNat (a % 65536) false)
theorem cnt_bd (n : Int) : -32 ≤ cnt n ∧ cnt n ≤ 31 := by unfold cnt; omega
theorem bi_bd (b : Bool) : bi b 1 = 0 ∨ bi b 1 = 1 := by cases b <;> simp [bi]
theorem sg_eq (v : Int) (h0 : 0 ≤ v) (h1 : v < 65536) : v / 32768 = bi (S v false) 1 := by
  unfold S bi; simp only [Bool.false_eq_true, if_false, decide_eq_true_eq]; split <;> omega
theorem and_sgn (v : Int) : Go.bits .and .i64 v 32768 = bi (S v false) 32768 := by
  rw [and_32768, lsb15]; unfold S bi; simp only [Bool.false_eq_true, if_false]
theorem ne_bi (a b : Bool) : (bi a 32768 != bi b 32768) = (a != b) := by cases a <;> cases b <;> decide
theorem f_step (c o s t : Bool) : Go.bits .or .i64 (Go.bits .or .i64 (Go.bits .and .i64 (bi c 1 + bi o 2) 2) (bi s 1)) (bi t 2) = bi s 1 + bi (o || t) 2 := by
  cases c <;> cases o <;> cases s <;> cases t <;> decide +kernel
theorem f_out (c o n z : Bool) : Go.bits .or .i64 (bi c 1 + bi o 2) (bi n 8 + bi z 4) = bi n 8 + bi z 4 + bi o 2 + bi c 1 := by
  cases c <;> cases o <;> cases n <;> cases z <;> decide +kernel
theorem join15 (v : Int) (b : Bool) (h0 : 0 ≤ v) (h1 : v < 32768) : Go.bits .or .i64 (bi b 32768) v = v + bi b 32768 := by
  cases b
  · obtain ⟨n, rfl⟩ := Int.eq_ofNat_of_zero_le h0
    show Go.bits .or .i64 ((0 : Nat) : Int) (n : Int) = _
    rw [nat_or 0 n (by omega) (by omega)]; simp [bi]
  · show Go.bits .or .i64 32768 v = v + 32768
    rw [bits_join .i64 63 (by decide) (fun n h0 h1 => wrap_small n (by omega) (by omega)) 15 32768 v (by omega) (by decide) (by omega) h0 h1 (by omega)]; omega
theorem S_sh (v : Int) (h0 : 0 ≤ v) (h1 : v < 65536) : S (v / 2 + bi (S v false) 32768) false = S v false := by
  unfold S bi; simp only [Bool.false_eq_true, if_false, decide_eq_true_eq]
  by_cases h : 32768 ≤ v % 65536
  · simp only [h, if_true, decide_true, decide_eq_true_eq]; omega
  · simp only [h, if_false, decide_false, decide_eq_false_iff_not]; omega
theorem sh_bd (v : Int) (h0 : 0 ≤ v) (h1 : v < 65536) : 0 ≤ v / 2 + bi (S v false) 32768 ∧ v / 2 + bi (S v false) 32768 < 65536 := by
  unfold bi; split <;> omega
theorem bit0 (v : Int) : v % 2 = bi (decide (v % 2 = 1)) 1 := by unfold bi; simp only [decide_eq_true_eq]; split <;> omega
theorem w_l1 : ∀ (n : Nat) (v : Int) (c o : Bool) (b : Bool) (k : Nat), n < k → n ≤ 32 → 0 ≤ v → v < 65536 → (n ≠ 0 → S v false = b ∧ o = false) →
    word_Shift.l1 k (-(n : Int)) v (bi c 1 + bi o 2) (bi b 32768) = some ((fun r => out3 r.1 r.2 o) (shrP n v c)) := by
  intro n
  induction n with
  | zero =>
    intro v c o b k hk hn h0 h1 hs
    obtain ⟨k, rfl⟩ : ∃ q, k = q + 1 := ⟨k - 1, by omega⟩
    simp only [word_Shift.l1]
    rw [if_neg (by simp), flags_v]
    simp only [Option.bind_some]
    unfold fl
    rw [f_out]
    rfl
  | succ n ih =>
    intro v c o b k hk hn h0 h1 hs
    obtain ⟨k, rfl⟩ : ∃ q, k = q + 1 := ⟨k - 1, by omega⟩
    obtain ⟨hb, rfl⟩ := hs (by omega)
    simp only [word_Shift.l1]
    rw [if_pos (by omega), and1, join15 _ _ (by omega) (by omega), bit0, wrap_in _ (by omega) (by omega), ← hb]
    rw [show (-((n + 1 : Nat) : Int) + 1) = -(n : Int) by omega]
    have hh := ih (v / 2 + bi (S v false) 32768) (decide (v % 2 = 1)) false (S v false) k (by omega) (by omega) (sh_bd v h0 h1).1 (sh_bd v h0 h1).2 (fun _ => ⟨S_sh v h0 h1, rfl⟩)
    have e : bi false 2 = 0 := rfl
    rw [e, Int.add_zero] at hh
    rw [hh]
    rfl
theorem w_l0 : ∀ (n : Nat) (v0 v : Int) (c o : Bool) (k : Nat), n + 1 < k → n ≤ 32 → 0 ≤ v → v < 65536 →
    word_Shift.l0 k (n : Int) v (bi c 1 + bi o 2) (bi (S v0 false) 32768) = some ((fun r => out3 r.1 r.2.1 r.2.2) (shlP n v0 v c o)) := by
  intro n
  induction n with
  | zero =>
    intro v0 v c o k hk hn h0 h1
    obtain ⟨k, rfl⟩ : ∃ q, k = q + 1 := ⟨k - 1, by omega⟩
    simp only [word_Shift.l0]
    rw [if_neg (by simp)]
    exact w_l1 0 v c o _ k (by omega) (by omega) h0 h1 (fun h => absurd rfl h)
  | succ n ih =>
    intro v0 v c o k hk hn h0 h1
    obtain ⟨k, rfl⟩ : ∃ q, k = q + 1 := ⟨k - 1, by omega⟩
    simp only [word_Shift.l0]
    rw [if_pos (by omega), wrap_in (v * 2) (by omega) (by omega), wrap_v]
    simp only [Option.bind_some, when_v]
    rw [and_sgn, ne_bi, sg_eq v h0 h1, f_step, wrap_in _ (by omega) (by omega), show (((n + 1 : Nat) : Int) - 1) = (n : Int) by omega, Int.mul_comm v 2]
    rw [ih v0 (2 * v % 65536) _ _ k (by omega) (by omega) (by omega) (by omega)]
    have e : S (2 * v % 65536) false = S (2 * v) false := S_mod (2 * v) false
    rw [e]
    rfl
theorem shift_v (k : Nat) (hk : 35 ≤ k) (a n : Int) : word_Shift.f k a n = some (shiftP a n) := by
  have hc := cnt_bd n
  have e : (wrap64 (n * 288230376151711744)) / 288230376151711744 = cnt n := by unfold wrap64 cnt; omega
  unfold word_Shift.f shiftP
  rw [wrap_v]
  simp only [Option.bind_some]
  rw [e, and_sgn]
  by_cases h : 0 ≤ cnt n
  · rw [if_pos h]
    have := w_l0 (cnt n).toNat (a % 65536) (a % 65536) false false k (by omega) (by omega) (by omega) (by omega)
    rw [Int.toNat_of_nonneg h] at this
    exact this
  · rw [if_neg h]
    obtain ⟨k, rfl⟩ : ∃ q, k = q + 1 := ⟨k - 1, by omega⟩
    simp only [word_Shift.l0]
    rw [if_neg (by omega)]
    have := w_l1 (-cnt n).toNat (a % 65536) false false (S (a % 65536) false) k (by omega) (by omega) (by omega) (by omega) (fun _ => ⟨rfl, rfl⟩)
    rw [Int.toNat_of_nonneg (by omega), Int.neg_neg] at this
    exact this
theorem r_l1 : ∀ (n : Nat) (v : Int) (c o : Bool) (k : Nat), n < k → n ≤ 32 → 0 ≤ v → v < 65536 →
    emulatorref01_Shift.l1 k (-(n : Int)) v (bi c 1) (bi o 1) = some ((fun r => out3 r.1 r.2 o) (shrP n v c)) := by
  intro n
  induction n with
  | zero =>
    intro v c o k hk hn h0 h1
    obtain ⟨k, rfl⟩ : ∃ q, k = q + 1 := ⟨k - 1, by omega⟩
    simp only [emulatorref01_Shift.l1]
    rw [if_neg (by simp), rflags_v]
    simp only [Option.bind_some]
    have hf := fl_bd v false
    have h2 : wrap64 (2 * bi o 1) = bi o 2 := by cases o <;> simp [bi, wrap64]
    have h3 : bi o 2 = 0 ∨ bi o 2 = 2 := by cases o <;> simp [bi]
    have h4 := bi_bd c
    rw [h2, wrap_in (fl v false + bi o 2) (by omega) (by omega), wrap_in _ (by omega) (by omega)]
    rfl
  | succ n ih =>
    intro v c o k hk hn h0 h1
    obtain ⟨k, rfl⟩ : ∃ q, k = q + 1 := ⟨k - 1, by omega⟩
    simp only [emulatorref01_Shift.l1]
    rw [if_pos (by omega), sign_v, and1, bit0]
    simp only [Option.bind_some]
    have h2 : wrap64 (32768 * bi (S v false) 1) = bi (S v false) 32768 := by cases S v false <;> simp [bi, wrap64]
    have h3 := sh_bd v h0 h1
    rw [h2, Int.tdiv_eq_ediv_of_nonneg h0, wrap_in (v / 2) (by omega) (by omega), wrap_in (v / 2 + _) (by omega) (by omega), wrap_in _ (by omega) (by omega)]
    rw [show (-((n + 1 : Nat) : Int) + 1) = -(n : Int) by omega]
    rw [ih (v / 2 + bi (S v false) 32768) (decide (v % 2 = 1)) o k (by omega) (by omega) h3.1 h3.2]
    rfl
theorem r_l0 : ∀ (n : Nat) (a v : Int) (c o : Bool) (k : Nat), n + 1 < k → n ≤ 32 → 0 ≤ v → v < 65536 →
    emulatorref01_Shift.l0 k a (n : Int) v (bi c 1) (bi o 1) = some ((fun r => out3 r.1 r.2.1 r.2.2) (shlP n a v c o)) := by
  intro n
  induction n with
  | zero =>
    intro a v c o k hk hn h0 h1
    obtain ⟨k, rfl⟩ : ∃ q, k = q + 1 := ⟨k - 1, by omega⟩
    simp only [emulatorref01_Shift.l0]
    rw [if_neg (by simp)]
    exact r_l1 0 v c o k (by omega) (by omega) h0 h1
  | succ n ih =>
    intro a v c o k hk hn h0 h1
    obtain ⟨k, rfl⟩ : ∃ q, k = q + 1 := ⟨k - 1, by omega⟩
    simp only [emulatorref01_Shift.l0]
    rw [if_pos (by omega), sign_v, wrap_in (2 * v) (by omega) (by omega), rwrap_v]
    simp only [Option.bind_some, sign_v, bi1_eq]
    have e : S (2 * v % 65536) false = S (2 * v) false := S_mod (2 * v) false
    rw [wrap_in _ (by omega) (by omega), show (((n + 1 : Nat) : Int) - 1) = (n : Int) by omega, e]
    by_cases hs : S (2 * v) false = S a false
    · rw [if_pos hs, ih a (2 * v % 65536) _ o k (by omega) (by omega) (by omega) (by omega)]
      simp only [shlP, hs, bne_self_eq_false, Bool.or_false]
    · have hs' : (S (2 * v) false != S a false) = true := bne_iff_ne.2 hs
      rw [if_neg hs]
      have := ih a (2 * v % 65536) (S v false) true k (by omega) (by omega) (by omega) (by omega)
      rw [show bi true 1 = 1 from rfl] at this
      rw [this]
      simp only [shlP, hs', Bool.or_true]
theorem shl_any (n : Nat) : ∀ (a b v : Int) (c o : Bool), S a false = S b false → shlP n a v c o = shlP n b v c o := by
  induction n with
  | zero => intros; rfl
  | succ n ih => intro a b v c o h; simp only [shlP]; rw [h, ih a b _ _ _ h]
theorem rshift_v (k : Nat) (hk : 36 ≤ k) (a n : Int) : emulatorref01_Shift.f k a n = some (shiftP a n) := by
  have hc := cnt_bd n
  have key : ∀ q, q = cnt n → emulatorref01_Shift.j0 k a q = some (shiftP a n) := by
    intro q hq
    subst hq
    obtain ⟨k, rfl⟩ : ∃ q, k = q + 1 := ⟨k - 1, by omega⟩
    simp only [emulatorref01_Shift.j0, rwrap_v, Option.bind_some]
    unfold shiftP
    by_cases h : 0 ≤ cnt n
    · rw [if_pos h]
      have := r_l0 (cnt n).toNat a (a % 65536) false false k (by omega) (by omega) (by omega) (by omega)
      rw [Int.toNat_of_nonneg h] at this
      rw [shl_any _ (a % 65536) a _ _ _ (S_mod a false)]
      exact this
    · rw [if_neg h]
      obtain ⟨k, rfl⟩ : ∃ q, k = q + 1 := ⟨k - 1, by omega⟩
      simp only [emulatorref01_Shift.l0]
      rw [if_neg (by omega)]
      have := r_l1 (-cnt n).toNat (a % 65536) false false k (by omega) (by omega) (by omega) (by omega)
      rw [Int.toNat_of_nonneg (by omega), Int.neg_neg] at this
      exact this
  unfold emulatorref01_Shift.f
  rw [and63]
  split
  · exact key _ (by rw [wrap_in _ (by omega) (by omega)]; unfold cnt; omega)
  · exact key _ (by unfold cnt; omega)

/-! ### rotation -/
def rotR (a c : Int) (left w : Bool) : Int := if left = true then (2 * (a % M w) + c % 2) % M w else a % M w / 2 + bi (decide (c % 2 = 1)) (M w / 2)
def rotC (a : Int) (left w : Bool) : Bool := if left = true then S a w else decide (a % 2 = 1)
def rotP (a c : Int) (left w : Bool) : Int × Int :=
  (rotR a c left w, bi (S (rotR a c left w) w) 8 + bi (Z (rotR a c left w) w) 4 + bi (rotC a left w) 1 + bi (S (rotR a c left w) w != rotC a left w) 2)
theorem n8 (n z o : Bool) : (Go.bits .and .i64 (Go.bits .or .i64 (bi n 8 + bi z 4) (bi o 1)) 8 != 0) = n := by cases n <;> cases z <;> cases o <;> decide +kernel
theorem bi_eq1 (o : Bool) : (bi o 1 == 1) = o := by cases o <;> decide
theorem or_low (x c : Int) (h0 : 0 ≤ x) (h1 : x < 131072) (h2 : x % 2 = 0) (h3 : 0 ≤ c) (h4 : c < 2) : Go.bits .or .i64 x c = x + c :=
  bits_join .i64 63 (by decide) (fun n h0 h1 => wrap_small n (by omega) (by omega)) 1 x c h0 (by omega) (by omega) h3 (by omega) (by omega)
theorem or_high (x : Int) (b : Bool) (w : Bool) (h0 : 0 ≤ x) (h1 : x < M w / 2) : Go.bits .or .i64 x (bi b (M w / 2)) = x + bi b (M w / 2) := by
  obtain ⟨n, rfl⟩ := Int.eq_ofNat_of_zero_le h0
  cases b
  · show Go.bits .or .i64 (n : Int) ((0 : Nat) : Int) = _
    have : (n : Int) < 32768 := by cases w <;> simp [M] at h1 <;> omega
    rw [nat_or n 0 (by omega) (by omega)]; simp [bi]
  · cases w
    · show Go.bits .or .i64 (n : Int) ((32768 : Nat) : Int) = (n : Int) + 32768
      have h2 : (n : Int) < 32768 := h1
      have e := Nat.two_pow_add_eq_or_of_lt (i := 15) (b := n) (by omega) 1
      rw [nat_or n 32768 (by omega) (by omega), Nat.or_comm]
      have e2 : 32768 ||| n = 32768 + n := by simpa using e.symm
      rw [e2]; omega
    · show Go.bits .or .i64 (n : Int) ((128 : Nat) : Int) = (n : Int) + 128
      have h2 : (n : Int) < 128 := h1
      have e := Nat.two_pow_add_eq_or_of_lt (i := 7) (b := n) (by omega) 1
      rw [nat_or n 128 (by omega) (by omega), Nat.or_comm]
      have e2 : 128 ||| n = 128 + n := by simpa using e.symm
      rw [e2]; omega
theorem rot_v (a c : Int) (left w : Bool) : word_Rotate.f a c left w = some (rotP a c left w) := by
  have hb := M_le w
  have hp := M_pos w
  have h1 := Int.emod_nonneg a (Int.ne_of_gt hp)
  have h2 := Int.emod_lt_of_pos a hp
  unfold word_Rotate.f
  rw [of_v]
  simp only [Option.bind_some, when_v]
  rw [and1, and_M a]
  have e1 : (c % 2 == 1) = decide (c % 2 = 1) := Bool.eq_iff_iff.2 (by rw [beq_iff_eq, decide_eq_true_iff])
  rw [e1]
  cases left with
  | true =>
    rw [if_pos rfl, ne_sg, S_mod, wrap_in _ (by omega) (by omega), or_low _ _ (by omega) (by omega) (by omega) (by omega) (by omega), and_M, flags_v]
    simp -implicitDefEqProofs only [Option.bind_some]
    have e2 : (a % M w * 2 + c % 2) % M w = rotR a c true w := by unfold rotR; rw [if_pos rfl, Int.mul_comm]
    rw [e2]
    unfold fl
    rw [n8, bi_eq1, or4]
    rfl
  | false =>
    have e0 : a % M w % 2 = a % 2 := by rcases hb with h | h <;> rw [h] <;> omega
    rw [if_neg (by decide), and1, e0, or_high _ _ _ (by omega) (by omega), flags_v]
    simp -implicitDefEqProofs only [Option.bind_some]
    have e2 : a % M w / 2 + bi (decide (c % 2 = 1)) (M w / 2) = rotR a c false w := by unfold rotR; rw [if_neg (by decide)]
    rw [e2, bit0 a]
    unfold fl
    rw [n8, bi_eq1, or4]
    rfl
theorem rrot_v (k : Nat) (a c : Int) (left w : Bool) : emulatorref01_Rotate.f (k + 1) a c left w = some (rotP a c left w) := by
  have hb := M_le w
  have hp := M_pos w
  have h1 := Int.emod_nonneg a (Int.ne_of_gt hp)
  have h2 := Int.emod_lt_of_pos a hp
  have key : ∀ (r : Int) (o : Bool), emulatorref01_Rotate.j0 (k + 1) w r (bi o 1) = some (r, bi (S r w) 8 + bi (Z r w) 4 + bi o 1 + bi (S r w != o) 2) := by
    intro r o
    have hf := fl_bd r w
    have ho := bi_bd o
    simp only [emulatorref01_Rotate.j0, rflags_v, sign_v, Option.bind_some, bi1_eq]
    rw [wrap_in (fl r w + bi o 1) (by omega) (by omega), wrap_in (fl r w + bi o 1 + 2) (by omega) (by omega)]
    unfold fl
    by_cases hs : S r w = o
    · rw [if_pos hs, hs]; simp [bi]
    · have hs' : (S r w != o) = true := bne_iff_ne.2 hs
      rw [if_neg hs, hs']; rfl
  unfold emulatorref01_Rotate.f
  rw [mask_v]
  simp only [Option.bind_some]
  rw [and1, and_M a]
  cases left with
  | true =>
    rw [if_pos rfl, sign_v, S_mod, wrap_in (2 * (a % M w)) (by omega) (by omega), wrap_in _ (by omega) (by omega), and_M]
    simp only [Option.bind_some]
    rw [key]
    rfl
  | false =>
    have e0 : a % M w % 2 = a % 2 := by rcases hb with h | h <;> rw [h] <;> omega
    have e3 : wrap64 (wrap64 (wrap64 ((M w - 1).tdiv 2) + 1) * (c % 2)) = bi (decide (c % 2 = 1)) (M w / 2) := by
      have hc : c % 2 = 0 ∨ c % 2 = 1 := by omega
      rcases hc with h | h <;> rw [h] <;> cases w <;> decide +kernel
    have h5 : 0 ≤ bi (decide (c % 2 = 1)) (M w / 2) ∧ bi (decide (c % 2 = 1)) (M w / 2) ≤ 65536 := by unfold bi; split <;> omega
    rw [if_neg (by decide), and1, e0, e3, Int.tdiv_eq_ediv_of_nonneg h1, wrap_in (a % M w / 2) (by omega) (by omega), wrap_in _ (by omega) (by omega), bit0 a, key]
    rfl
end Go.Proofs.YtfeflghimnbhiaaDoor.Wd
