/- What Wake, Exit and Reap keep of a valid table. Plain facts on tables; no condition. -/
import Derived.Test.YtnnknhcdnklalaaL1
import Derived.Test.YtnnknhcdnklalaaBits
namespace Go.Proofs.Ytnnknhcdnklalaa.A
open Go Go.RowKit
set_option linter.unusedSimpArgs false
set_option linter.unusedVariables false
def RightP (t : Nat → Pr) : Prop := (∀ i, i < 8 → validB (t i) = true) ∧ ∀ i k, i < 8 → k < i → (t i).f 2 ≠ 0 → (t k).f 2 ≠ 0 → (t i).f 0 ≠ (t k).f 0
theorem right_iff (t : Nat → Pr) : rightB t = true ↔ RightP t := by
  unfold rightB
  rw [← right_same t 8]
  constructor
  · intro h
    refine ⟨fun i hi => ?_, fun i k hi hk h1 h2 h3 => ?_⟩
    · have := allB_true h hi; unfold rrightQ at this; simp only [Bool.and_eq_true] at this; exact this.1
    · have := allB_true h hi; unfold rrightQ at this; simp only [Bool.and_eq_true] at this
      have := allB_true this.2 hk
      unfold dupP at this; simp [h1, h2, h3] at this
  · rintro ⟨h1, h2⟩
    refine allB_mk fun i hi => ?_
    unfold rrightQ; rw [h1 i hi, Bool.true_and]
    refine allB_mk fun k hk => ?_
    unfold dupP
    by_cases e1 : (t i).f 2 = 0
    · simp [e1]
    · by_cases e2 : (t k).f 2 = 0
      · simp [e2]
      · have := h2 i k hi hk e1 e2
        have hb : ((t i).f 0 == (t k).f 0) = false := by simpa using this
        rw [hb]; simp
theorem right_keep {t t' : Nat → Pr} (h : RightP t) (hv : ∀ i, i < 8 → validB (t' i) = true) (hp : ∀ i, i < 8 → (t' i).f 2 ≠ 0 → (t i).f 2 ≠ 0 ∧ (t' i).f 0 = (t i).f 0) : RightP t' :=
  ⟨hv, fun i k hi hk h1 h2 => by
    obtain ⟨a1, a2⟩ := hp i hi h1
    obtain ⟨b1, b2⟩ := hp k (by omega) h2
    rw [a2, b2]; exact h.2 i k hi hk a1 b1⟩
/-- What validity asks of a living process. -/
def LiveP (p : Pr) : Prop := (((rg 1 30000 (p.f 0) = true ∧ rg 0 30000 (p.f 1) = true) ∧ rg 0 255 (p.f 27) = true) ∧ (allB (fdsP p) 8 = true ∧ (p.f 2 = 1 ∨ p.f 2 = 2)) ∧ (((regsB p = true ∧ rg 0 511 (p.f 13) = true) ∧ rg 1 512 (p.f 14) = true) ∧ rg 1 31 (p.f 24) = true) ∧ rg 0 50 (p.f 28) = true) ∧ waitsB p = true
theorem live_iff (p : Pr) (h0 : p.f 2 ≠ 0) (h3 : p.f 2 ≠ 3) : validB p = true ↔ LiveP p := by
  unfold validB LiveP
  rw [if_neg h0, if_neg h3]
  simp only [Bool.and_eq_true, Bool.or_eq_true, beq_iff_eq]
  constructor
  · rintro ⟨a, b, ⟨c, d⟩, e⟩; exact ⟨⟨a, b, c, d⟩, e⟩
  · rintro ⟨⟨a, b, c, d⟩, e⟩; exact ⟨a, b, ⟨c, d⟩, e⟩
theorem live_state {p : Pr} (h : LiveP p) : p.f 2 = 1 ∨ p.f 2 = 2 := h.1.2.1.2
theorem rdy_f (p : Pr) (j : Nat) (h2 : j ≠ 2) (h25 : j ≠ 25) (h26 : j ≠ 26) : (rdy p).f j = p.f j := by
  unfold rdy; rw [setf_other _ _ _ _ h26, setf_other _ _ _ _ h25, setf_other _ _ _ _ h2]
theorem rdy_2 (p : Pr) : (rdy p).f 2 = 1 := by unfold rdy; rw [setf_other _ _ _ _ (by decide), setf_other _ _ _ _ (by decide), setf_same]
theorem rdy_25 (p : Pr) : (rdy p).f 25 = 0 := by unfold rdy; rw [setf_other _ _ _ _ (by decide), setf_same]
theorem rdy_26 (p : Pr) : (rdy p).f 26 = 0 := by unfold rdy; rw [setf_same]
theorem regs_congr {p q : Pr} (h : ∀ j, 3 ≤ j → j ≤ 12 → p.f j = q.f j) : regsB p = regsB q := by
  unfold regsB
  rw [h 12 (by decide) (by decide), allB_congr (g := rgs q) fun k hk => by unfold rgs; rw [h (3 + k) (by omega) (by omega)]]
theorem fds_congr {p q : Pr} (h : ∀ j, 16 ≤ j → j ≤ 23 → p.f j = q.f j) : allB (fdsP p) 8 = allB (fdsP q) 8 :=
  allB_congr fun k hk => by unfold fdsP; rw [h (16 + k) (by omega) (by omega)]
theorem live_rdy {p : Pr} (h : LiveP p) : LiveP (rdy p) := by
  obtain ⟨⟨⟨⟨a1, a2⟩, a3⟩, ⟨b1, b2⟩, ⟨⟨⟨c1, c2⟩, c3⟩, c4⟩, c5⟩, d⟩ := h
  have hf : ∀ j, j ≠ 2 → j ≠ 25 → j ≠ 26 → (rdy p).f j = p.f j := rdy_f p
  refine ⟨⟨⟨⟨?_, ?_⟩, ?_⟩, ⟨?_, Or.inl (rdy_2 p)⟩, ⟨⟨⟨?_, ?_⟩, ?_⟩, ?_⟩, ?_⟩, ?_⟩
  · rw [hf 0 (by decide) (by decide) (by decide)]; exact a1
  · rw [hf 1 (by decide) (by decide) (by decide)]; exact a2
  · rw [hf 27 (by decide) (by decide) (by decide)]; exact a3
  · rw [fds_congr (q := p) fun j h1 h2 => hf j (by omega) (by omega) (by omega)]; exact b1
  · rw [regs_congr (q := p) fun j h1 h2 => hf j (by omega) (by omega) (by omega)]; exact c1
  · rw [hf 13 (by decide) (by decide) (by decide)]; exact c2
  · rw [hf 14 (by decide) (by decide) (by decide)]; exact c3
  · rw [hf 24 (by decide) (by decide) (by decide)]; exact c4
  · rw [hf 28 (by decide) (by decide) (by decide)]; exact c5
  · unfold waitsB; rw [if_pos (rdy_2 p), rdy_25, rdy_26]; rfl
theorem live_par {p : Pr} (h : LiveP p) : LiveP (setf p 1 0) := by
  obtain ⟨⟨⟨⟨a1, a2⟩, a3⟩, ⟨b1, b2⟩, ⟨⟨⟨c1, c2⟩, c3⟩, c4⟩, c5⟩, d⟩ := h
  have hf : ∀ j, j ≠ 1 → (setf p 1 0).f j = p.f j := fun j hj => setf_other p 1 j 0 hj
  refine ⟨⟨⟨⟨?_, ?_⟩, ?_⟩, ⟨?_, ?_⟩, ⟨⟨⟨?_, ?_⟩, ?_⟩, ?_⟩, ?_⟩, ?_⟩
  · rw [hf 0 (by decide)]; exact a1
  · rw [setf_same]; decide
  · rw [hf 27 (by decide)]; exact a3
  · rw [fds_congr (q := p) fun j h1 h2 => hf j (by omega)]; exact b1
  · rw [hf 2 (by decide)]; exact b2
  · rw [regs_congr (q := p) fun j h1 h2 => hf j (by omega)]; exact c1
  · rw [hf 13 (by decide)]; exact c2
  · rw [hf 14 (by decide)]; exact c3
  · rw [hf 24 (by decide)]; exact c4
  · rw [hf 28 (by decide)]; exact c5
  · unfold waitsB at d ⊢; rw [hf 2 (by decide), hf 25 (by decide), hf 26 (by decide)]; exact d
theorem valid_live {p : Pr} (h : LiveP p) : validB p = true := (live_iff p (by have := live_state h; omega) (by have := live_state h; omega)).2 h
theorem valid_cases {p : Pr} (h : validB p = true) : p.f 2 = 0 ∨ p.f 2 = 3 ∨ LiveP p := by
  by_cases h0 : p.f 2 = 0
  · exact Or.inl h0
  · by_cases h3 : p.f 2 = 3
    · exact Or.inr (Or.inl h3)
    · exact Or.inr (Or.inr ((live_iff p h0 h3).1 h))
theorem rg_pid {p : Pr} (h : validB p = true) (h0 : p.f 2 ≠ 0) : rg 1 30000 (p.f 0) = true ∧ rg 0 30000 (p.f 1) = true := by
  unfold validB at h; rw [if_neg h0] at h; simp only [Bool.and_eq_true] at h; exact h.1.1
theorem bits255 (s : Int) : 0 ≤ Go.bits .and .i64 s 255 ∧ Go.bits .and .i64 s 255 ≤ 255 := by
  rw [Bits.and255]; omega
theorem valid_zomb {a b c : Int} (ha : rg 1 30000 a = true) (hb : rg 0 30000 b = true) (hc : 0 ≤ c ∧ c ≤ 255) : validB (zomb a b c) = true := by
  unfold validB
  have e0 : (zomb a b c).f 0 = a := rfl
  have e1 : (zomb a b c).f 1 = b := rfl
  have e2 : (zomb a b c).f 2 = 3 := rfl
  have e27 : (zomb a b c).f 27 = c := rfl
  rw [e0, e1, e2, e27, if_neg (by decide), if_pos rfl, ha, hb, eqP_self]
  unfold rg; simp [hc]
/-! ### Wake -/
theorem wake_at (kind id : Int) (t : Nat → Pr) (i : Nat) (hi : i < 8) : wakeT kind id t i = if isW kind id (t i) then rdy (t i) else t i := by
  unfold wakeT mapN; rw [if_pos hi]; rfl
theorem isW_2 {kind id : Int} {p : Pr} (h : isW kind id p = true) : p.f 2 = 2 := by
  unfold isW at h; simp only [Bool.and_eq_true, beq_iff_eq] at h; exact h.1.1
theorem wake_right (kind id : Int) {t : Nat → Pr} (h : RightP t) : RightP (wakeT kind id t) := by
  refine right_keep h (fun i hi => ?_) (fun i hi => ?_)
  · rw [wake_at kind id t i hi]
    split
    · rename_i hw
      have h2 := isW_2 hw
      rcases valid_cases (h.1 i hi) with h0 | h3 | hl
      · omega
      · omega
      · exact valid_live (live_rdy hl)
    · exact h.1 i hi
  · rw [wake_at kind id t i hi]
    split
    · rename_i hw
      have h2 := isW_2 hw
      exact fun _ => ⟨by omega, rdy_f _ 0 (by decide) (by decide) (by decide)⟩
    · exact fun h => ⟨h, rfl⟩
/-! ### Exit -/
theorem ex_at (t : Nat → Pr) (i : Nat) (z : Pr) (pid : Int) (k : Nat) (hk : k < 8) : mapN (exF i pid) (updT t i z) 8 k = if k = i then z else exF i pid k (t k) := by
  show (if k < 8 then exF i pid k (updT t i z k) else updT t i z k) = _
  rw [if_pos hk]
  by_cases e : k = i
  · subst e; rw [if_pos rfl, updT_same]; unfold exF; rw [if_neg (fun h => h.1 rfl)]
  · rw [if_neg e, updT_other _ _ _ _ e]
theorem exF_cases (i : Nat) (pid : Int) (k : Nat) (p : Pr) : exF i pid k p = p ∨ (exF i pid k p = zp ∧ p.f 2 = 3) ∨ (exF i pid k p = setf p 1 0 ∧ p.f 2 ≠ 0 ∧ p.f 2 ≠ 3) := by
  unfold exF
  split
  · rename_i h
    split
    · rename_i h3; exact Or.inr (Or.inl ⟨rfl, h3⟩)
    · rename_i h3; exact Or.inr (Or.inr ⟨rfl, h.2.1, h3⟩)
  · exact Or.inl rfl
theorem ex_valid (i : Nat) (pid : Int) (k : Nat) {p : Pr} (h : validB p = true) : validB (exF i pid k p) = true := by
  rcases exF_cases i pid k p with e | ⟨e, _⟩ | ⟨e, h0, h3⟩
  · rw [e]; exact h
  · rw [e]; exact valid_zp
  · rw [e]; exact valid_live (live_par ((live_iff p h0 h3).1 h))
theorem ex_pid (i : Nat) (pid : Int) (k : Nat) (p : Pr) (h : (exF i pid k p).f 2 ≠ 0) : p.f 2 ≠ 0 ∧ (exF i pid k p).f 0 = p.f 0 := by
  rcases exF_cases i pid k p with e | ⟨e, h3⟩ | ⟨e, h0, h3⟩
  · rw [e] at h ⊢; exact ⟨h, rfl⟩
  · rw [e] at h; exact absurd rfl h
  · rw [e]; exact ⟨h0, rfl⟩
theorem wk_valid (par : Int) (k : Nat) {p : Pr} (h : validB p = true) : validB (wkF par k p) = true := by
  unfold wkF
  split
  · rename_i hw
    rcases valid_cases h with h0 | h3 | hl
    · omega
    · omega
    · exact valid_live (live_rdy hl)
  · exact h
theorem wk_pid (par : Int) (k : Nat) (p : Pr) (h : (wkF par k p).f 2 ≠ 0) : p.f 2 ≠ 0 ∧ (wkF par k p).f 0 = p.f 0 := by
  unfold wkF at h ⊢
  split at h
  · rename_i hw; rw [if_pos hw]; exact ⟨by omega, rdy_f _ 0 (by decide) (by decide) (by decide)⟩
  · rename_i hw; rw [if_neg hw]; exact ⟨h, rfl⟩
theorem exit_at (t : Nat → Pr) (i : Nat) (s : Int) (hi : i < 8) (k : Nat) (hk : k < 8) : exitG t i s k =
    if (t i).f 1 = 0 then (if k = i then zp else exF i ((t i).f 0) k (t k)) else wkF ((t i).f 1) k (if k = i then zomb ((t i).f 0) ((t i).f 1) s else exF i ((t i).f 0) k (t k)) := by
  unfold exitG
  split
  · by_cases e : k = i
    · subst e; rw [updT_same, if_pos rfl]
    · rw [updT_other _ _ _ _ e, ex_at _ _ _ _ _ hk, if_neg e, if_neg e]
  · show (if k < 8 then wkF ((t i).f 1) k (mapN (exF i ((t i).f 0)) (updT t i (zomb ((t i).f 0) ((t i).f 1) s)) 8 k) else _) = _
    rw [if_pos hk, ex_at _ _ _ _ _ hk]
theorem exit_right (index status : Int) {t : Nat → Pr} (h : RightP t) : RightP (exitT t index status) := by
  unfold exitT
  split
  · rename_i hc
    obtain ⟨h1, h2, h3, h4⟩ := hc
    have hi : index.toNat < 8 := by omega
    generalize index.toNat = i at *
    obtain ⟨r1, r2⟩ := rg_pid (h.1 i hi) h3
    have hz : validB (zomb ((t i).f 0) ((t i).f 1) (Go.bits .and .i64 status 255)) = true := valid_zomb r1 r2 (bits255 status)
    refine right_keep h (fun k hk => ?_) (fun k hk => ?_)
    · rw [exit_at t i _ hi k hk]
      split
      · split
        · exact valid_zp
        · exact ex_valid _ _ _ (h.1 k hk)
      · refine wk_valid _ _ ?_
        split
        · exact hz
        · exact ex_valid _ _ _ (h.1 k hk)
    · rw [exit_at t i _ hi k hk]
      split
      · split
        · exact fun h => absurd rfl h
        · exact ex_pid _ _ _ _
      · intro hh
        obtain ⟨g1, g2⟩ := wk_pid _ _ _ hh
        rw [g2]
        split at g1
        · rename_i e; subst e; rw [if_pos rfl]; exact ⟨h3, rfl⟩
        · rename_i e; rw [if_neg e]; exact ex_pid _ _ _ _ g1
  · exact h
/-! ### Reap -/
theorem upd_right {t : Nat → Pr} (h : RightP t) (z : Nat) : RightP (updT t z zp) := by
  refine right_keep h (fun k hk => ?_) (fun k hk => ?_)
  · by_cases e : k = z
    · subst e; rw [updT_same]; exact valid_zp
    · rw [updT_other _ _ _ _ e]; exact h.1 k hk
  · by_cases e : k = z
    · subst e; rw [updT_same]; exact fun h => absurd rfl h
    · rw [updT_other _ _ _ _ e]; exact fun h => ⟨h, rfl⟩
theorem reap_ok {t : Nat → Pr} {n : Int} (h : (reapS t n).2.2.2 = 0) : ∃ z, z < 8 ∧ (reapS t n).1 = updT t z zp ∧ (t z).f 2 = 3 := by
  unfold reapS at h ⊢
  by_cases h1 : n < 1
  · rw [if_pos h1] at h; simp at h
  · rw [if_neg h1] at h ⊢
    by_cases h2 : 0 ≤ scan (childP t n true) 0 8
    · rw [if_pos h2]
      obtain ⟨z, hz, he, hp⟩ := scan_ge _ _ _ h2
      rw [childP_true] at hp; simp only [Bool.and_eq_true, beq_iff_eq] at hp
      exact ⟨z, hz, by rw [he]; simp, hp.1⟩
    · rw [if_neg h2] at h
      split at h <;> simp at h
/-! ### What a living process keeps -/
/-- All cells but the state, what is waited for, and the parent are the same. -/
def Keep (p q : Pr) : Prop := (∀ j, j ≠ 1 → j ≠ 2 → j ≠ 25 → j ≠ 26 → q.f j = p.f j) ∧ q.sw = p.sw
theorem keep_refl (p : Pr) : Keep p p := ⟨fun _ _ _ _ _ => rfl, rfl⟩
theorem keep_rdy (p : Pr) : Keep p (rdy p) := ⟨fun j h1 h2 h25 h26 => rdy_f p j h2 h25 h26, rfl⟩
theorem keep_par (p : Pr) : Keep p (setf p 1 0) := ⟨fun j h1 h2 h25 h26 => setf_other _ _ _ _ h1, rfl⟩
theorem Keep.trans {a b c : Pr} (h : Keep a b) (k : Keep b c) : Keep a c := ⟨fun j h1 h2 h3 h4 => (k.1 j h1 h2 h3 h4).trans (h.1 j h1 h2 h3 h4), k.2.trans h.2⟩
theorem keep_back {p q : Pr} (h : Keep p q) : pcs (setf (setf (setf (setf q 2 (p.f 2)) 25 (p.f 25)) 26 (p.f 26)) 1 (p.f 1)) = pcs p := by
  refine pcs_ext (pcs_size _) fun j hj => ?_
  rw [pcs_get _ j hj]
  congr 1
  rw [pc_setf _ _ _ _ (by decide), pc_setf _ _ _ _ (by decide), pc_setf _ _ _ _ (by decide), pc_setf _ _ _ _ (by decide)]
  by_cases h1 : j = 1
  · subst h1; rw [if_pos rfl, pc_int _ _ (by decide)]
  · rw [if_neg h1]
    by_cases h2 : j = 26
    · subst h2; rw [if_pos rfl, pc_int _ _ (by decide)]
    · rw [if_neg h2]
      by_cases h3 : j = 25
      · subst h3; rw [if_pos rfl, pc_int _ _ (by decide)]
      · rw [if_neg h3]
        by_cases h4 : j = 2
        · subst h4; rw [if_pos rfl, pc_int _ _ (by decide)]
        · rw [if_neg h4]
          by_cases h5 : j = 15
          · subst h5; rw [pc_sw, pc_sw, h.2]
          · rw [pc_int _ _ h5, pc_int _ _ h5, h.1 j h1 h4 h3 h2]
theorem wake_keep (kind id : Int) (t : Nat → Pr) (i : Nat) (hi : i < 8) : Keep (t i) (wakeT kind id t i) ∧ (wakeT kind id t i).f 1 = (t i).f 1 := by
  rw [wake_at kind id t i hi]
  split
  · exact ⟨keep_rdy _, rdy_f _ 1 (by decide) (by decide) (by decide)⟩
  · exact ⟨keep_refl _, rfl⟩
theorem wk_keep (par : Int) (k : Nat) (p : Pr) : Keep p (wkF par k p) := by
  unfold wkF; split
  · exact keep_rdy _
  · exact keep_refl _
theorem exit_keep (t : Nat → Pr) (index status : Int) (k : Nat) (hk : k < 8) (hne : (k : Int) ≠ index) (h3 : (t k).f 2 ≠ 3) : Keep (t k) (exitT t index status k) := by
  unfold exitT
  split
  · rename_i hc
    have hi : index.toNat < 8 := by omega
    have hki : k ≠ index.toNat := by omega
    generalize index.toNat = i at *
    have hx : Keep (t k) (exF i ((t i).f 0) k (t k)) := by
      rcases exF_cases i ((t i).f 0) k (t k) with e | ⟨e, g⟩ | ⟨e, _⟩
      · rw [e]; exact keep_refl _
      · exact absurd g h3
      · rw [e]; exact keep_par _
    rw [exit_at t i _ hi k hk, if_neg hki, if_neg hki]
    split
    · exact hx
    · exact hx.trans (wk_keep _ _ _)
  · exact keep_refl _
theorem reap_keep (t : Nat → Pr) (n : Int) (k : Nat) (h : (reapS t n).2.2.2 = 0) (h3 : (t k).f 2 ≠ 3) : (reapS t n).1 k = t k := by
  obtain ⟨z, hz, he, hs⟩ := reap_ok h
  rw [he, updT_other]
  intro e; subst e; exact h3 hs
end Go.Proofs.Ytnnknhcdnklalaa.A
