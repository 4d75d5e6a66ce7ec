/- The plain laws of emulatorlaw42 (pipe): what the printed functions come to, and that each law's function answers true. Numbers, strings and lists alone, no memory. Conditions: the ranges of Go's ints, strings of at most 2^47 bytes. -/
import Derived.Test.YtamncbcephalaaaAx8
import Derived.Test.YtamncbcephalaaaAx11
import Derived.Test.YtamncbcephalaaaAx12
import Derived.Test.YtamncbcephalaaaAx16
import Derived.Test.YtamncbcephalaaaAx17
import Derived.Test.YtamncbcephalaaaAx18
import Derived.Lib.Strings
namespace Go.Proofs.Ytamncbcephalaaa.Plain
set_option linter.unusedSimpArgs false
set_option linter.unusedVariables false
open Go.RowKit Go.Proofs.Ytamncbcephalaaa.A Go.Proofs.YtamncbcephalaaaW.PrintMore Go.Proofs.YtamncbcephalaaaW.PrintWords

theorem tl_len (s : ByteArray) : s.toList.length = s.size := by rw [ByteArray.toList_eq, Array.length_toList]; rfl
theorem tl_nil (s : ByteArray) : s.toList = [] ↔ s.size = 0 := by rw [← tl_len]; exact List.length_eq_zero_iff.symm
theorem tl_ext (s : ByteArray) (a b : Nat) : (s.extract a b).toList = (s.toList.drop a).take (b - a) := by rw [Lib.extract_toList, ByteArray.toList_eq]
theorem tl_app (a b : ByteArray) : (a ++ b).toList = a.toList ++ b.toList := by
  rw [ByteArray.toList_eq, ByteArray.toList_eq, ByteArray.toList_eq, ByteArray.data_append, Array.toList_append]
theorem wrap_in (n : Int) (h0 : -9223372036854775808 ≤ n) (h1 : n ≤ 9223372036854775807) : wrap64 n = n := by unfold wrap64; omega
theorem deq {x : Bool} {P : Prop} [Decidable P] (h : x = true ↔ P) : some x = some (decide P) := by
  congr 1; rw [Bool.eq_iff_iff, decide_eq_true_iff]; exact h

/-- a valid pipe -/
def R (d : ByteArray) (n m : Int) : Prop := (d.size : Int) ≤ 64 ∧ 0 ≤ n ∧ n ≤ 24 ∧ 0 ≤ m ∧ m ≤ 24 ∧ (0 < n ∨ d.toList = [])
instance (d : ByteArray) (n m : Int) : Decidable (R d n m) := by unfold R; infer_instance
theorem open_v (n : Int) : pipe_open.f n = some (decide (0 ≤ n ∧ n ≤ 24)) := by
  unfold pipe_open.f
  split
  all_goals (refine deq ?_; simp only [decide_eq_true_eq, Bool.false_eq_true, false_iff]; omega)
theorem right_v (d : ByteArray) (n m : Int) : pipe_Right.f d n m = some (decide (R d n m)) := by
  unfold pipe_Right.f
  simp only [open_v, Option.bind_some, decide_eq_true_eq]
  by_cases hd : d.toList = []
  all_goals
    try simp only [hd, beq_iff_eq]
    repeat' split
    all_goals (refine deq ?_; simp only [R, hd, decide_eq_true_eq, beq_iff_eq, Bool.false_eq_true, false_iff, true_iff, or_true, or_false, and_true] at *; first | omega | (simp; omega) | simp_all)
theorem rright_v (d : ByteArray) (n m : Int) : emulatorref42_Right.f d n m = some (decide (R d n m)) := by
  unfold emulatorref42_Right.f
  by_cases hd : d.toList = []
  all_goals
    try simp only [hd, beq_iff_eq]
    repeat' split
    all_goals (refine deq ?_; simp only [R, hd, decide_eq_true_eq, beq_iff_eq, Bool.false_eq_true, false_iff, true_iff, or_true, or_false, and_true] at *; first | omega | (simp; omega) | simp_all)
def E : ByteArray := (⟨#[]⟩ : ByteArray)
theorem E_nil : E.toList = [] := by rw [ByteArray.toList_eq]; rfl
theorem e_nil : (⟨#[]⟩ : ByteArray).toList = [] := E_nil
def readP (d : ByteArray) (n m a : Int) : ByteArray × Int × Int × ByteArray × Int :=
  if a < 0 then (E, 0, 0, E, 1) else if n = 0 then (E, 0, 0, E, 18) else if 0 < a ∧ d.toList = [] ∧ 0 < m then (E, 0, 0, E, 20)
  else (d.extract (mn a d.size).toNat d.size, n, m, d.extract 0 (mn a d.size).toNat, 0)
theorem mn_le (a b : Int) : mn a b ≤ a ∧ mn a b ≤ b ∧ (mn a b = a ∨ mn a b = b) := by unfold mn; split <;> omega
theorem read_v (d : ByteArray) (n m a : Int) : pipe_Read.f d n m a = some (readP d n m a) := by
  have h1 := mn_le a d.size
  unfold pipe_Read.f readP E
  by_cases ha : a < 0
  · simp only [ha, if_true]
  · have h2 : 0 ≤ mn a d.size := by omega
    simp only [ha, if_false, h1, h2, if_true]
    repeat' split
    all_goals first | rfl | (exfalso; simp_all; done) | (exfalso; omega)
theorem rread_v (d : ByteArray) (n m a : Int) (hn : 0 ≤ n) : emulatorref42_Read.f d n m a = some (readP d n m a) := by
  have h1 := mn_le a d.size
  have e : (n < 1) = (n = 0) := by apply propext; omega
  unfold emulatorref42_Read.f readP E
  by_cases ha : a < 0
  · simp only [ha, if_true]
  · have h2 : 0 ≤ mn a d.size := by omega
    simp only [ha, if_false, h1, h2, if_true, e]
    repeat' split
    all_goals first | rfl | (exfalso; simp_all; done) | (exfalso; omega)
def writeP (d : ByteArray) (n m : Int) (s : ByteArray) : ByteArray × Int × Int × Int × Int :=
  if m = 0 then (E, 0, 0, 0, 18) else if n = 0 then (E, 0, 0, 0, 19) else if s.toList = [] then (d ++ s.extract 0 s.size, n, m, (s.size : Int), 0)
  else if d.size = 64 then (E, 0, 0, 0, 20) else if s.size + d.size ≤ 64 then (d ++ s.extract 0 s.size, n, m, (s.size : Int), 0) else (d ++ s.extract 0 (64 - d.size), n, m, 64 - (d.size : Int), 0)
theorem write_v (d : ByteArray) (n m : Int) (s : ByteArray) (hd : d.size ≤ 64) : pipe_Write.f d n m s = some (writeP d n m s) := by
  unfold pipe_Write.f writeP E
  rw [if_pos hd]
  repeat' split
  all_goals rfl
theorem rwrite_v (d : ByteArray) (n m : Int) (s : ByteArray) (hd : d.size ≤ 64) (hn : 0 ≤ n) (hm : 0 ≤ m) : emulatorref42_Write.f d n m s = some (writeP d n m s) := by
  have e1 : (n < 1) = (n = 0) := by apply propext; omega
  have e2 : (m < 1) = (m = 0) := by apply propext; omega
  unfold emulatorref42_Write.f writeP E
  rw [if_pos hd]
  simp only [e1, e2]
  repeat' split
  all_goals rfl
theorem alive_ge (n : Nat) : emulatorlaw42_alive.f (80 + n) = some true := by
  induction n with
  | zero => exact alive_K
  | succ n ih => exact emulatorlaw42_alive.mono (80 + n) true ih
theorem alive_at {k : Nat} (h : 80 ≤ k) : emulatorlaw42_alive.f k = some true := by
  obtain ⟨n, rfl⟩ : ∃ n, k = 80 + n := ⟨k - 80, by omega⟩
  exact alive_ge n

theorem PipeRight (d : ByteArray) (n m : Int) : emulatorlaw42_PipeRight.f 80 d n m = some true := by
  unfold emulatorlaw42_PipeRight.f
  rw [right_v, rright_v, alive_K]
  simp [pipe_New.f, emulatorref42_New.f]
theorem PipeMoves (d : ByteArray) (n m a : Int) (s : ByteArray) : emulatorlaw42_PipeMoves.f 80 d n m a s = some true := by
  unfold emulatorlaw42_PipeMoves.f
  rw [rright_v, alive_K]
  by_cases h : R d n m
  · have h' := h
    unfold R at h'
    simp only [Option.bind_some, h, decide_true, if_true]
    rw [read_v, rread_v _ _ _ _ h'.2.1, write_v _ _ _ _ (by omega), rwrite_v _ _ _ _ (by omega) h'.2.1 h'.2.2.2.1]
    simp
  · simp [h]
theorem PipeEnds (d : ByteArray) (n m : Int) (b : Bool) : emulatorlaw42_PipeEnds.f 80 d n m b = some true := by
  unfold emulatorlaw42_PipeEnds.f
  rw [rright_v, alive_K]
  by_cases h : R d n m
  · have h' := h
    unfold R at h'
    simp only [Option.bind_some, h, decide_true, if_true]
    have hc : ∃ r, pipe_Close.f d n m b = some r ∧ ∃ s, emulatorref42_Close.f d n m b = some s ∧ r.1.toList = s.1.toList ∧ r.2.1 = s.2.1 ∧ r.2.2.1 = s.2.2.1 ∧ r.2.2.2 = s.2.2.2 := by
      have e1 : (n < 1) = (n = 0) := by apply propext; omega
      have e2 : (m < 1) = (m = 0) := by apply propext; omega
      unfold pipe_Close.f emulatorref42_Close.f
      simp only [e1, e2]
      cases b with
      | true =>
        simp only [if_true]
        by_cases h0 : m = 0
        · simp [h0]
        · simp only [h0, if_false]
          by_cases h1 : n = 0
          · simp only [h1, if_true]
            refine ⟨_, rfl, _, rfl, ?_, rfl, rfl, rfl⟩
            rcases h'.2.2.2.2.2 with h2 | h2
            · omega
            · show E.toList = _
              rw [h2, E_nil]
          · simp only [h1, if_false]
            exact ⟨_, rfl, _, rfl, rfl, rfl, rfl, rfl⟩
      | false =>
        simp only [Bool.false_eq_true, if_false]
        repeat' split
        all_goals exact ⟨_, rfl, _, rfl, rfl, rfl, rfl, rfl⟩
    have hd : ∃ r, pipe_Dup.f 80 d n m b = some r ∧ emulatorref42_Dup.f 80 d n m b = some r := by
      unfold pipe_Dup.f emulatorref42_Dup.f
      simp only [emulatorref42_Dup.j0]
      have e1 : (n < 1) = (n = 0) := by apply propext; omega
      have e2 : (m < 1) = (m = 0) := by apply propext; omega
      have e3 : (n ≥ 24) = (n = 24) := by apply propext; omega
      have e4 : (m ≥ 24) = (m = 24) := by apply propext; omega
      simp only [e1, e2, e3, e4]
      cases b with
      | true => simp only [if_true]; repeat' split
                all_goals exact ⟨_, rfl, rfl⟩
      | false => simp only [Bool.false_eq_true, if_false]; repeat' split
                 all_goals exact ⟨_, rfl, rfl⟩
    obtain ⟨r, hr, s, hs, a1, a2, a3, a4⟩ := hc
    obtain ⟨q, hq1, hq2⟩ := hd
    rw [hr, hs, hq1, hq2]
    simp [a1, a2, a3, a4]
  · simp [h]
theorem PipeReopens (d : ByteArray) (n m : Int) (b : Bool) : emulatorlaw42_PipeReopens.f 80 d n m b = some true := by
  unfold emulatorlaw42_PipeReopens.f
  rw [rright_v, alive_K]
  by_cases h : R d n m
  · have h' := h
    unfold R at h'
    simp only [Option.bind_some, h, decide_true, if_true]
    cases b with
    | true =>
      unfold pipe_Dup.f
      simp only [if_true]
      by_cases h0 : m = 0
      · simp [h0, e_nil]
      · by_cases h1 : m = 24
        · simp [h1, e_nil]
        · simp only [h0, h1, if_false, Option.bind_some, if_true]
          have hw : wrap64 (m + 1) = m + 1 := wrap_in _ (by omega) (by omega)
          have hw2 : wrap64 (m + 1 - 1) = m := by rw [wrap_in _ (by omega) (by omega)]; omega
          rw [hw]
          have hr : R d n (m + 1) := by unfold R; refine ⟨h'.1, h'.2.1, h'.2.2.1, by omega, by omega, h'.2.2.2.2.2⟩
          unfold pipe_Close.f
          simp only [if_true]
          rw [if_neg (by omega), hw2]
          by_cases h2 : n = 0
          · rw [if_pos h2]
            have h3 : d.toList = [] := by
              rcases h'.2.2.2.2.2 with h3 | h3
              · omega
              · exact h3
            simp only [Option.bind_some, if_true, right_v, hr, decide_true]
            simp [h3, e_nil]
          · rw [if_neg h2]
            simp only [Option.bind_some, if_true, right_v, hr, decide_true]
            simp
    | false =>
      unfold pipe_Dup.f
      simp only [Bool.false_eq_true, if_false]
      by_cases h0 : n = 0
      · simp [h0, e_nil]
      · by_cases h1 : n = 24
        · simp [h1, e_nil]
        · simp only [h0, h1, if_false, Option.bind_some, if_true]
          have hw : wrap64 (n + 1) = n + 1 := wrap_in _ (by omega) (by omega)
          have hw2 : wrap64 (n + 1 - 1) = n := by rw [wrap_in _ (by omega) (by omega)]; omega
          rw [hw]
          have hr : R d (n + 1) m := by unfold R; refine ⟨h'.1, by omega, by omega, h'.2.2.2.1, h'.2.2.2.2.1, .inl (by omega)⟩
          unfold pipe_Close.f
          simp only [Bool.false_eq_true, if_false]
          rw [if_neg (by omega), hw2, if_neg h0]
          simp only [Option.bind_some, if_true, right_v, hr, decide_true]
          simp
  · simp [h]

theorem read_cases (d : ByteArray) (n m a : Int) (ha : 0 ≤ a) :
    (n = 0 ∧ readP d n m a = (E, 0, 0, E, 18)) ∨ (n ≠ 0 ∧ 0 < a ∧ d.toList = [] ∧ 0 < m ∧ readP d n m a = (E, 0, 0, E, 20)) ∨
    (n ≠ 0 ∧ ¬ (0 < a ∧ d.toList = [] ∧ 0 < m) ∧ ∃ c : Nat, (c : Int) = mn a d.size ∧ c ≤ d.size ∧ readP d n m a = (d.extract c d.size, n, m, d.extract 0 c, 0)) := by
  have h1 := mn_le a d.size
  unfold readP
  rw [if_neg (by omega)]
  by_cases hn : n = 0
  · exact .inl ⟨hn, by rw [if_pos hn]⟩
  · rw [if_neg hn]
    by_cases h2 : 0 < a ∧ d.toList = [] ∧ 0 < m
    · exact .inr (.inl ⟨hn, h2.1, h2.2.1, h2.2.2, by rw [if_pos h2]⟩)
    · exact .inr (.inr ⟨hn, h2, (mn a d.size).toNat, by omega, by omega, by rw [if_neg h2]⟩)
theorem write_cases (d : ByteArray) (n m : Int) (s : ByteArray) (hd : d.size ≤ 64) (hn : 0 ≤ n) (hm : 0 ≤ m) :
    (m = 0 ∧ writeP d n m s = (E, 0, 0, 0, 18)) ∨ (m ≠ 0 ∧ n = 0 ∧ writeP d n m s = (E, 0, 0, 0, 19)) ∨ (m ≠ 0 ∧ n ≠ 0 ∧ s.toList ≠ [] ∧ d.size = 64 ∧ writeP d n m s = (E, 0, 0, 0, 20)) ∨
    (m ≠ 0 ∧ n ≠ 0 ∧ ∃ c : Nat, (s.toList ≠ [] → 1 ≤ c) ∧ c ≤ s.size ∧ d.size + c ≤ 64 ∧ writeP d n m s = (d ++ s.extract 0 c, n, m, (c : Int), 0)) := by
  unfold writeP
  by_cases h1 : m = 0
  · exact .inl ⟨h1, by rw [if_pos h1]⟩
  · rw [if_neg h1]
    by_cases h2 : n = 0
    · exact .inr (.inl ⟨h1, h2, by rw [if_pos h2]⟩)
    · rw [if_neg h2]
      refine .inr (.inr ?_)
      by_cases h3 : s.toList = []
      · rw [if_pos h3]
        have hs := (tl_nil s).1 h3
        exact .inr ⟨h1, h2, s.size, fun h => absurd h3 h, Nat.le_refl _, by omega, rfl⟩
      · rw [if_neg h3]
        have hs : s.size ≠ 0 := fun h => h3 ((tl_nil s).2 h)
        by_cases h4 : d.size = 64
        · exact .inl ⟨h1, h2, h3, h4, by rw [if_pos h4]⟩
        · rw [if_neg h4]
          by_cases h5 : s.size + d.size ≤ 64
          · rw [if_pos h5]
            exact .inr ⟨h1, h2, s.size, fun _ => by omega, Nat.le_refl _, by omega, rfl⟩
          · rw [if_neg h5]
            refine .inr ⟨h1, h2, 64 - d.size, fun _ => by omega, by omega, by omega, ?_⟩
            rw [Int.natCast_sub hd]; rfl
theorem ext_nil (d : ByteArray) (c : Nat) : (d.extract 0 c).toList = [] ↔ c = 0 ∨ d.toList = [] := by
  rw [tl_ext, List.drop_zero, Nat.sub_zero, List.take_eq_nil_iff]
theorem waits_j1 (d : ByteArray) (n m : Int) (hR : R d n m) (r1 : ByteArray) (r2 r3 : Int) (r4 : ByteArray) (r5 : Int) (w1 : ByteArray) (w2 w3 w4 w5 : Int)
    (hr : r5 = 0 ∨ (r1.toList = [] ∧ r2 = 0 ∧ r3 = 0 ∧ r4.toList = [])) (hw : (w5 = 0 ∧ 1 ≤ w4) ∨ (w5 ≠ 0 ∧ w1.toList = [] ∧ w2 = 0 ∧ w3 = 0 ∧ w4 = 0 ∧ (w5 = 20 → d.size = 64 ∧ n ≠ 0 ∧ m ≠ 0))) :
    emulatorlaw42_PipeWaits.j1 81 r4 r5 w4 w5 false d n m r1 r2 r3 w1 w2 w3 = some true := by
  simp only [emulatorlaw42_PipeWaits.j1, Bool.false_eq_true, if_false, alive_K, Option.bind_some]
  rcases hw with ⟨rfl, h4⟩ | ⟨h5, a1, a2, a3, a4, h20⟩
  · rw [if_neg (by decide), if_pos rfl, if_neg (by omega)]
    rcases hr with rfl | ⟨b1, b2, b3, b4⟩
    · rw [if_pos rfl]
    · split
      · rfl
      · simp [b1, b2, b3, b4]
  · by_cases e20 : w5 = 20
    · obtain ⟨c1, c2, c3⟩ := h20 e20
      rw [if_pos e20, if_neg (by omega), if_neg c2, if_neg c3, if_neg h5]
      rcases hr with rfl | ⟨b1, b2, b3, b4⟩
      · simp [a1, a2, a3, a4]
      · simp [a1, a2, a3, a4, b1, b2, b3, b4]
    · rw [if_neg e20, if_neg h5]
      rcases hr with rfl | ⟨b1, b2, b3, b4⟩
      · simp [a1, a2, a3, a4]
      · simp [a1, a2, a3, a4, b1, b2, b3, b4]
theorem PipeWaits (d : ByteArray) (n m a : Int) (s : ByteArray) (h0 : 0 ≤ a) (h1 : a ≤ 255) : emulatorlaw42_PipeWaits.f 82 d n m a s = some true := by
  have jt : ∀ (b : Int), emulatorlaw42_PipeWaits.j0 82 b s true d n m = some true := by
    intro b; simp only [emulatorlaw42_PipeWaits.j0, if_true]
  unfold emulatorlaw42_PipeWaits.f
  rw [rright_v]
  by_cases hR : R d n m
  · simp only [Option.bind_some, hR, decide_true, if_true]
    by_cases ha : a = 0
    · rw [if_pos ha]; exact jt a
    · rw [if_neg ha]
      by_cases hs : s.toList = []
      · rw [hs]; exact jt a
      · have hb : (s.toList == []) = false := beq_eq_false_iff_ne.2 hs
        have hR' := hR
        unfold R at hR'
        have hw : wrap64 a = a := wrap_in _ (by omega) (by omega)
        rw [hb]
        simp only [emulatorlaw42_PipeWaits.j0, Bool.false_eq_true, if_false]
        rw [hw, read_v, write_v _ _ _ _ (by omega)]
        simp only [Option.bind_some]
        have hW : (writeP d n m s).2.2.2.2 = 0 ∧ 1 ≤ (writeP d n m s).2.2.2.1 ∨ ((writeP d n m s).2.2.2.2 ≠ 0 ∧ (writeP d n m s).1.toList = [] ∧ (writeP d n m s).2.1 = 0 ∧ (writeP d n m s).2.2.1 = 0 ∧ (writeP d n m s).2.2.2.1 = 0 ∧ ((writeP d n m s).2.2.2.2 = 20 → d.size = 64 ∧ n ≠ 0 ∧ m ≠ 0)) := by
          rcases write_cases d n m s (by omega) hR'.2.1 hR'.2.2.2.1 with ⟨_, e⟩ | ⟨_, _, e⟩ | ⟨k1, k2, _, k3, e⟩ | ⟨_, _, c, hc, _, _, e⟩ <;> rw [e]
          · exact .inr ⟨by decide, E_nil, rfl, rfl, rfl, fun h => absurd h (by decide)⟩
          · exact .inr ⟨by decide, E_nil, rfl, rfl, rfl, fun h => absurd h (by decide)⟩
          · exact .inr ⟨by decide, E_nil, rfl, rfl, rfl, fun _ => ⟨k3, k2, k1⟩⟩
          · exact .inl ⟨rfl, by have := hc hs; show (1 : Int) ≤ (c : Int); omega⟩
        have J : ∀ x, readP d n m a = x → (x.2.2.2.2 = 0 ∨ (x.1.toList = [] ∧ x.2.1 = 0 ∧ x.2.2.1 = 0 ∧ x.2.2.2.1.toList = [])) → emulatorlaw42_PipeWaits.j1 81 x.2.2.2.1 x.2.2.2.2 (writeP d n m s).2.2.2.1 (writeP d n m s).2.2.2.2 false d n m x.1 x.2.1 x.2.2.1 (writeP d n m s).1 (writeP d n m s).2.1 (writeP d n m s).2.2.1 = some true :=
          fun x _ hx => waits_j1 d n m hR _ _ _ _ _ _ _ _ _ _ hx hW
        rcases read_cases d n m a h0 with ⟨hn, e⟩ | ⟨hn, _, hd, hm, e⟩ | ⟨hn, hc, c, hc1, hc2, e⟩
        · have j := J _ e (.inr ⟨E_nil, rfl, rfl, E_nil⟩)
          rw [e]
          rw [if_neg (by decide), if_neg (by decide)]
          exact j
        · have j := J _ e (.inr ⟨E_nil, rfl, rfl, E_nil⟩)
          rw [e]
          rw [if_pos rfl, if_pos hd, if_neg (by omega), if_neg hn, if_neg (by decide)]
          exact j
        · have j := J _ e (.inl rfl)
          rw [e]
          rw [if_neg (by show ¬ (0 : Int) = 20; decide), if_pos rfl]
          by_cases ht : (d.extract 0 c).toList = []
          · rw [if_pos ht]
            have hd : d.toList = [] := by
              rcases (ext_nil d c).1 ht with h | h
              · have := mn_le a d.size
                apply (tl_nil d).2; omega
              · exact h
            have hm : ¬ m > 0 := fun hm => hc ⟨by omega, hd, hm⟩
            rw [if_pos hd, decide_eq_false hm]
            exact j
          · rw [if_neg ht]
            exact j
  · simp only [Option.bind_some, hR, decide_false, Bool.false_eq_true, if_false]
    exact jt a

/-- the pipe that a deed leaves -/
theorem order_j3 (l : List S39) (i : Nat) (x5 x6 : ByteArray) (d : ByteArray) (n m : Int) (k : Nat) (hk : 80 ≤ k) (hR : R d n m) (hin : n ≠ 0 → x6.toList ++ d.toList = x5.toList) (hb : x6.size + d.size ≤ 100000)
    (hnext : n ≠ 0 → emulatorlaw42_PipeOrder.l0 k l x5 x6 (wrap64 ((i : Int) + 1)) d n m = some true) : emulatorlaw42_PipeOrder.j3 (k + 1) l x5 x6 (i : Int) d n m = some true := by
  simp only [emulatorlaw42_PipeOrder.j3, right_v, hR, decide_true, Option.bind_some, if_true]
  by_cases hn : n = 0
  · have hd : d.toList = [] := by
      unfold R at hR
      rcases hR.2.2.2.2.2 with h | h
      · omega
      · exact h
    rw [if_pos hn, if_pos hd, alive_at hk]; rfl
  · rw [if_neg hn, if_pos (by omega), tl_app, if_pos (hin hn)]
    exact hnext hn
theorem R_read {d : ByteArray} {n m : Int} (h : R d n m) (c : Nat) : R (d.extract c d.size) n m := by
  unfold R at h ⊢
  have hs : (d.extract c d.size).size ≤ d.size := by
    rw [← tl_len, tl_ext, ← tl_len]; simp
  refine ⟨by omega, h.2.1, h.2.2.1, h.2.2.2.1, h.2.2.2.2.1, ?_⟩
  rcases h.2.2.2.2.2 with h | h
  · exact .inl h
  · refine .inr ?_; rw [tl_ext, h]; simp
theorem size_app (a b : ByteArray) : (a ++ b).size = a.size + b.size := by
  rw [← tl_len, tl_app, List.length_append, tl_len, tl_len]
theorem order_l0 (l : List S39) (hl : l.length ≤ 100) : ∀ (r : Nat) (i : Nat) (x5 x6 d : ByteArray) (n m : Int) (k : Nat), i + r = l.length → 80 + 4 * r < k → R d n m →
    x6.toList ++ d.toList = x5.toList → x5.size ≤ 64 + 100 * i → emulatorlaw42_PipeOrder.l0 k l x5 x6 (i : Int) d n m = some true := by
  intro r
  induction r with
  | zero =>
    intro i x5 x6 d n m k hi hk hR hin hb
    obtain ⟨k, rfl⟩ : ∃ q, k = q + 1 := ⟨k - 1, by omega⟩
    simp only [emulatorlaw42_PipeOrder.l0]
    rw [if_neg (by omega), alive_at (by omega)]; rfl
  | succ r ih =>
    intro i x5 x6 d n m k hi hk hR hin hb
    obtain ⟨k, rfl⟩ : ∃ q, k = q + 1 := ⟨k - 1, by omega⟩
    have hsz : x6.size + d.size = x5.size := by rw [← tl_len, ← tl_len, ← tl_len, ← hin, List.length_append]
    have hw : wrap64 ((i : Int) + 1) = ((i + 1 : Nat) : Int) := by rw [wrap_in _ (by omega) (by omega)]; rfl
    have hR' := hR
    unfold R at hR'
    -- the rest of a round, whatever the deed gave
    have rest : ∀ (y5 y6 : ByteArray) (e : Int) (d' : ByteArray) (n' m' : Int), y5.size ≤ 64 + 100 * (i + 1) →
        (e = 0 → R d' n' m' ∧ (n' ≠ 0 → y6.toList ++ d'.toList = y5.toList) ∧ y6.size + d'.size ≤ 100000) → (e ≠ 0 → y6.toList ++ d.toList = y5.toList) →
        emulatorlaw42_PipeOrder.j2 k l y5 y6 (i : Int) e d n m d' n' m' = some true := by
      intro y5 y6 e d' n' m' hy he0 he1
      obtain ⟨k, rfl⟩ : ∃ q, k = q + 1 := ⟨k - 1, by omega⟩
      obtain ⟨k, rfl⟩ : ∃ q, k = q + 1 := ⟨k - 1, by omega⟩
      simp only [emulatorlaw42_PipeOrder.j2]
      by_cases h : e = 0
      · obtain ⟨a1, a2, a3⟩ := he0 h
        rw [if_pos h]
        refine order_j3 l i y5 y6 d' n' m' k (by omega) a1 a2 a3 (fun hn => ?_)
        rw [hw]
        exact ih (i + 1) y5 y6 d' n' m' k (by omega) (by omega) a1 (a2 hn) hy
      · have a2 := he1 h
        have a3 : y6.size + d.size = y5.size := by rw [← tl_len, ← tl_len, ← tl_len, ← a2, List.length_append]
        rw [if_neg h]
        refine order_j3 l i y5 y6 d n m k (by omega) hR (fun _ => a2) (by omega) (fun hn => ?_)
        rw [hw]
        exact ih (i + 1) y5 y6 d n m k (by omega) (by omega) hR a2 hy
    simp only [emulatorlaw42_PipeOrder.l0]
    rw [if_pos (by omega), if_pos (by omega)]
    generalize rd_T39 l (i : Int) = x
    by_cases ht : (x.f2.size : Int) > 100
    · rw [if_pos ht]
    · rw [if_neg ht]
      by_cases c0 : x.f0 = 0
      · rw [if_pos c0, read_v]
        simp only [Option.bind_some]
        by_cases hneg : x.f1 < 0
        · have e : readP d n m x.f1 = (E, 0, 0, E, 1) := by unfold readP; rw [if_pos hneg]
          rw [e, if_pos (by show x6.size + E.size ≤ _; have : E.size = 0 := rfl; omega)]
          refine rest _ _ _ _ _ _ (by omega) (fun h => absurd h (by decide)) (fun _ => ?_)
          rw [tl_app, E_nil, List.append_nil]; exact hin
        · rcases read_cases d n m x.f1 (by omega) with ⟨hn, e⟩ | ⟨hn, _, hd, hm, e⟩ | ⟨hn, hc, c, hc1, hc2, e⟩
          · rw [e, if_pos (by show x6.size + E.size ≤ _; have : E.size = 0 := rfl; omega)]
            refine rest _ _ _ _ _ _ (by omega) (fun h => absurd h (by decide)) (fun _ => ?_)
            rw [tl_app, E_nil, List.append_nil]; exact hin
          · rw [e, if_pos (by show x6.size + E.size ≤ _; have : E.size = 0 := rfl; omega)]
            refine rest _ _ _ _ _ _ (by omega) (fun h => absurd h (by decide)) (fun _ => ?_)
            rw [tl_app, E_nil, List.append_nil]; exact hin
          · have hs1 : (d.extract 0 c).size + (d.extract c d.size).size = d.size := by
              rw [← tl_len, ← tl_len, tl_ext, tl_ext, ← tl_len d]; simp; omega
            have hl1 : (d.extract 0 c).toList ++ (d.extract c d.size).toList = d.toList := by
              rw [tl_ext, tl_ext, ← tl_len d, List.drop_zero, Nat.sub_zero, List.take_of_length_le (l := d.toList.drop c) (by simp), List.take_append_drop]
            rw [e, if_pos (by show x6.size + (d.extract 0 c).size ≤ _; omega)]
            refine rest _ _ _ _ _ _ (by omega) (fun _ => ⟨R_read hR c, fun _ => ?_, ?_⟩) (fun h => absurd rfl h)
            · show (x6 ++ d.extract 0 c).toList ++ (d.extract c d.size).toList = x5.toList
              rw [tl_app, List.append_assoc, hl1]; exact hin
            · show (x6 ++ d.extract 0 c).size + (d.extract c d.size).size ≤ _
              rw [size_app]; omega
      · rw [if_neg c0]
        by_cases c1 : x.f0 = 1
        · rw [if_pos c1, write_v _ _ _ _ (by omega)]
          simp only [Option.bind_some]
          have none_ : ∀ q, writeP d n m x.f2 = (E, 0, 0, 0, q) → q ≠ 0 → (if (writeP d n m x.f2).2.2.2.1 < 0 then some false else if (writeP d n m x.f2).2.2.2.1 > (x.f2.size : Int) then some false else if 0 ≤ (writeP d n m x.f2).2.2.2.1 then (if (writeP d n m x.f2).2.2.2.1 ≤ (x.f2.size : Int) then (if x5.size + (x.f2.extract 0 ((writeP d n m x.f2).2.2.2.1 : Int).toNat).size ≤ 9223372036854775807 then emulatorlaw42_PipeOrder.j2 k l (x5 ++ (x.f2.extract 0 ((writeP d n m x.f2).2.2.2.1 : Int).toNat)) x6 (i : Int) (writeP d n m x.f2).2.2.2.2 d n m (writeP d n m x.f2).1 (writeP d n m x.f2).2.1 (writeP d n m x.f2).2.2.1 else none) else none) else none) = some true := by
            intro q e hq
            have hz : (x.f2.extract 0 ((0 : Int)).toNat).size = 0 := by rw [← tl_len, tl_ext]; simp
            have hz1 : (x.f2.extract 0 ((0 : Int)).toNat).toList = [] := by rw [tl_ext]; simp
            rw [e]
            rw [if_neg (by show ¬ (0 : Int) < 0; omega), if_neg (by show ¬ (0 : Int) > _; omega), if_pos (by show (0 : Int) ≤ 0; omega), if_pos (by show (0 : Int) ≤ _; omega), if_pos (by show x5.size + (x.f2.extract 0 ((0 : Int)).toNat).size ≤ _; omega)]
            refine rest _ _ _ _ _ _ (by show (x5 ++ x.f2.extract 0 ((0 : Int)).toNat).size ≤ _; rw [size_app]; omega) (fun h => absurd h hq) (fun _ => ?_)
            show _ = (x5 ++ x.f2.extract 0 ((0 : Int)).toNat).toList
            rw [tl_app, hz1, List.append_nil]; exact hin
          rcases write_cases d n m x.f2 (by omega) hR'.2.1 hR'.2.2.2.1 with ⟨_, e⟩ | ⟨_, _, e⟩ | ⟨k1, k2, _, k3, e⟩ | ⟨hm, hn, c, hc, hc1, hc2, e⟩
          · exact none_ _ e (by decide)
          · exact none_ _ e (by decide)
          · exact none_ _ e (by decide)
          · have hz : (x.f2.extract 0 c).size = c := by rw [← tl_len, tl_ext, List.drop_zero, Nat.sub_zero, List.length_take, tl_len]; omega
            rw [e]
            rw [if_neg (by show ¬ (c : Int) < 0; omega), if_neg (by show ¬ (c : Int) > _; omega), if_pos (by show (0 : Int) ≤ c; omega), if_pos (by show (c : Int) ≤ _; omega)]
            simp only [Int.toNat_natCast]
            rw [if_pos (by omega)]
            refine rest _ _ _ _ _ _ (by rw [size_app]; omega) (fun _ => ⟨?_, fun _ => ?_, ?_⟩) (fun h => absurd rfl h)
            · unfold R; (try dsimp only)
              refine ⟨by rw [size_app]; omega, hR'.2.1, hR'.2.2.1, hR'.2.2.2.1, hR'.2.2.2.2.1, .inl (by omega)⟩
            · rw [tl_app, tl_app, ← List.append_assoc, hin]
            · rw [size_app]; omega
        · rw [if_neg c1]
          by_cases c2 : x.f0 = 2
          · rw [if_pos c2]
            unfold pipe_Close.f
            cases x.f3 with
            | true =>
              simp only [if_true]
              by_cases hm : m = 0
              · rw [if_pos hm]
                exact rest _ _ _ _ _ _ (by omega) (fun h => absurd h (by decide)) (fun _ => hin)
              · rw [if_neg hm]
                have hwm : wrap64 (m - 1) = m - 1 := wrap_in _ (by omega) (by omega)
                rw [hwm]
                by_cases hn : n = 0
                · rw [if_pos hn]
                  have hz : E.size = 0 := rfl
                  refine rest _ _ _ _ _ _ (by omega) (fun _ => ⟨?_, fun h => absurd hn h, by show x6.size + E.size ≤ _; omega⟩) (fun h => absurd rfl h)
                  unfold R; dsimp only; exact ⟨by show ((E.size : Nat) : Int) ≤ 64; omega, by omega, by omega, by omega, by omega, .inr E_nil⟩
                · rw [if_neg hn]
                  refine rest _ _ _ _ _ _ (by omega) (fun _ => ⟨?_, fun _ => hin, by show x6.size + d.size ≤ _; omega⟩) (fun h => absurd rfl h)
                  unfold R; dsimp only; exact ⟨by omega, by omega, by omega, by omega, by omega, .inl (by omega)⟩
            | false =>
              simp only [Bool.false_eq_true, if_false]
              by_cases hn : n = 0
              · rw [if_pos hn]
                exact rest _ _ _ _ _ _ (by omega) (fun h => absurd h (by decide)) (fun _ => hin)
              · rw [if_neg hn]
                have hwn : wrap64 (n - 1) = n - 1 := wrap_in _ (by omega) (by omega)
                rw [hwn]
                by_cases hn1 : n - 1 = 0
                · rw [if_pos hn1]
                  have hz : E.size = 0 := rfl
                  refine rest _ _ _ _ _ _ (by omega) (fun _ => ⟨?_, fun h => absurd hn1 h, by show x6.size + E.size ≤ _; omega⟩) (fun h => absurd rfl h)
                  unfold R; dsimp only; exact ⟨by show ((E.size : Nat) : Int) ≤ 64; omega, by omega, by omega, by omega, by omega, .inr E_nil⟩
                · rw [if_neg hn1]
                  refine rest _ _ _ _ _ _ (by omega) (fun _ => ⟨?_, fun _ => hin, by show x6.size + d.size ≤ _; omega⟩) (fun h => absurd rfl h)
                  unfold R; dsimp only; exact ⟨by omega, by omega, by omega, by omega, by omega, .inl (by omega)⟩
          · rw [if_neg c2]
            by_cases c3 : x.f0 = 3
            · rw [if_pos c3]
              unfold pipe_Dup.f
              cases x.f3 with
              | true =>
                simp only [if_true]
                by_cases hm : m = 0
                · rw [if_pos hm]
                  exact rest _ _ _ _ _ _ (by omega) (fun h => absurd h (by decide)) (fun _ => hin)
                · rw [if_neg hm]
                  by_cases hm2 : m = 24
                  · rw [if_pos hm2]
                    exact rest _ _ _ _ _ _ (by omega) (fun h => absurd h (by decide)) (fun _ => hin)
                  · rw [if_neg hm2]
                    have hwm : wrap64 (m + 1) = m + 1 := wrap_in _ (by omega) (by omega)
                    rw [hwm]
                    refine rest _ _ _ _ _ _ (by omega) (fun _ => ⟨?_, fun _ => hin, by show x6.size + d.size ≤ _; omega⟩) (fun h => absurd rfl h)
                    unfold R; dsimp only; exact ⟨by omega, by omega, by omega, by omega, by omega, hR'.2.2.2.2.2⟩
              | false =>
                simp only [Bool.false_eq_true, if_false]
                by_cases hn : n = 0
                · rw [if_pos hn]
                  exact rest _ _ _ _ _ _ (by omega) (fun h => absurd h (by decide)) (fun _ => hin)
                · rw [if_neg hn]
                  by_cases hn2 : n = 24
                  · rw [if_pos hn2]
                    exact rest _ _ _ _ _ _ (by omega) (fun h => absurd h (by decide)) (fun _ => hin)
                  · rw [if_neg hn2]
                    have hwn : wrap64 (n + 1) = n + 1 := wrap_in _ (by omega) (by omega)
                    rw [hwn]
                    refine rest _ _ _ _ _ _ (by omega) (fun _ => ⟨?_, fun _ => hin, by show x6.size + d.size ≤ _; omega⟩) (fun h => absurd rfl h)
                    unfold R; dsimp only; exact ⟨by omega, by omega, by omega, by omega, by omega, .inl (by omega)⟩
            · rw [if_neg c3]
              exact rest _ _ _ _ _ _ (by omega) (fun _ => ⟨hR, fun _ => hin, by omega⟩) (fun h => absurd rfl h)
theorem PipeOrder (d : ByteArray) (n m : Int) (l : List S39) : emulatorlaw42_PipeOrder.f 600 d n m l = some true := by
  unfold emulatorlaw42_PipeOrder.f
  rw [rright_v]
  by_cases hR : R d n m
  · simp only [Option.bind_some, hR, decide_true, if_true, emulatorlaw42_PipeOrder.j0, decide_eq_true_eq]
    by_cases hl : (l.length : Int) > 100
    · rw [if_pos hl]
    · rw [if_neg hl]
      have hR' := hR
      unfold R at hR'
      exact order_l0 l (by omega) l.length 0 d E d n m 599 (by omega) (by omega) hR (by rw [E_nil]; rfl) (by omega)
  · simp only [Option.bind_some, hR, decide_false, Bool.false_eq_true, if_false, emulatorlaw42_PipeOrder.j0, if_true]
end Go.Proofs.Ytamncbcephalaaa.Plain
