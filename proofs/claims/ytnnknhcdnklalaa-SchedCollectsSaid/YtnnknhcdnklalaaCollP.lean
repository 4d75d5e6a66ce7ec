/- Children that end are collected once each. Plain facts on valid tables; no condition. -/
import Derived.Test.YtnnknhcdnklalaaKeepP
namespace Go.Proofs.Ytnnknhcdnklalaa.A
open Go Go.RowKit
set_option linter.unusedSimpArgs false
set_option linter.unusedVariables false
/-! ### lists of pairs -/
def keys (L : List (Int × Value)) : List Int := L.map (·.1)
theorem keys_put (k : Int) (x : Value) : ∀ L, keys (putI L k x) = if k ∈ keys L then keys L else keys L ++ [k]
  | [] => by simp [putI, keys]
  | (a, v) :: r => by
    have ih := keys_put k x r
    unfold keys at ih ⊢
    unfold putI
    by_cases h : k = a
    · subst h; simp
    · rw [if_neg h, List.map_cons, ih]
      by_cases h2 : k ∈ r.map (·.1)
      · rw [if_pos h2, if_pos (by simp only [List.map_cons, List.mem_cons]; exact Or.inr h2)]; rfl
      · rw [if_neg h2, if_neg (by simp only [List.map_cons, List.mem_cons]; intro e; rcases e with e | e; exact h e; exact h2 e)]; rfl
theorem nodup_put {L : List (Int × Value)} (h : (keys L).Nodup) (k : Int) (x : Value) : (keys (putI L k x)).Nodup := by
  rw [keys_put]
  split
  · exact h
  · rename_i hk
    rw [List.nodup_append]
    refine ⟨h, by simp, fun a ha b hb => ?_⟩
    simp at hb; subst hb; exact fun e => hk (e ▸ ha)
theorem getI_none {k : Int} : ∀ {L : List (Int × Value)}, k ∉ keys L → getI L k = none
  | [], _ => rfl
  | (a, v) :: r, h => by
    unfold keys at h; simp only [List.map_cons, List.mem_cons, not_or] at h
    unfold getI; rw [if_neg h.1]; exact getI_none h.2
theorem getI_delI {k : Int} (j : Int) : ∀ {L : List (Int × Value)}, (keys L).Nodup → getI (delI L k) j = if j = k then none else getI L j
  | [], _ => by simp [delI, getI]
  | (a, v) :: r, h => by
    unfold keys at h; simp only [List.map_cons, List.nodup_cons] at h
    unfold delI
    by_cases e : k = a
    · subst e; rw [if_pos rfl]
      by_cases ej : j = k
      · subst ej; rw [if_pos rfl]; exact getI_none h.1
      · rw [if_neg ej]; simp only [getI]; rw [if_neg ej]
    · rw [if_neg e]; simp only [getI]
      by_cases ej : j = a
      · subst ej; rw [if_pos rfl, if_neg (fun h => e h.symm), if_pos rfl]
      · rw [if_neg ej, if_neg ej]; exact getI_delI j h.2
theorem keys_del (k : Int) : ∀ L, ∀ x ∈ keys (delI L k), x ∈ keys L
  | [], x, h => h
  | (a, v) :: r, x, h => by
    unfold delI at h
    split at h
    · exact List.mem_cons_of_mem _ h
    · unfold keys at h ⊢; simp only [List.map_cons, List.mem_cons] at h ⊢
      rcases h with h | h
      · exact Or.inl h
      · exact Or.inr (keys_del k r x h)
theorem nodup_del (k : Int) : ∀ {L : List (Int × Value)}, (keys L).Nodup → (keys (delI L k)).Nodup
  | [], h => h
  | (a, v) :: r, h => by
    have h' := h
    unfold keys at h; simp only [List.map_cons, List.nodup_cons] at h
    unfold delI
    split
    · exact h.2
    · unfold keys; simp only [List.map_cons, List.nodup_cons]
      exact ⟨fun hm => h.1 (keys_del k r a hm), nodup_del k h.2⟩
theorem len_del {k : Int} {v : Value} : ∀ {L : List (Int × Value)}, getI L k = some v → (delI L k).length + 1 = L.length
  | [], h => by simp [getI] at h
  | (a, u) :: r, h => by
    unfold getI at h; unfold delI
    by_cases e : k = a
    · rw [if_pos e]; rfl
    · rw [if_neg e] at h ⊢; simp [len_del h]
/-! ### the children -/
def isC (t : Nat → Pr) (P : Int) (k : Nat) : Prop := (t k).f 2 ≠ 0 ∧ (t k).f 1 = P ∧ (t k).f 0 ≠ P
open Classical in
noncomputable def colT (t : Nat → Pr) (P : Int) (s : Nat → Int) : Nat → Nat → Pr
  | 0 => t
  | k + 1 => if isC t P k ∧ (t k).f 2 ≠ 3 then exitT (colT t P s k) k (s k) else colT t P s k
/-- The status that a child's parent gets. -/
def stat (t : Nat → Pr) (s : Nat → Int) (c : Nat) : Int := if (t c).f 2 = 3 then (t c).f 27 else Go.bits .and .i64 (s c) 255
open Classical in
noncomputable def colL (t : Nat → Pr) (P : Int) (s : Nat → Int) : Nat → List (Int × Value)
  | 0 => []
  | k + 1 => if isC t P k then (if (t k).f 2 = 3 then putI (colL t P s k) ((t k).f 0) (.int .i64 ((t k).f 27))
      else putI (putI (colL t P s k) ((t k).f 0) (.int .i64 ((t k).f 27))) ((t k).f 0) (.int .i64 (Go.bits .and .i64 (s k) 255))) else colL t P s k
open Classical in
theorem colL_eq (t : Nat → Pr) (P : Int) (s : Nat → Int) (k : Nat) : colL t P s (k + 1) = if isC t P k then (if (t k).f 2 = 3 then putI (colL t P s k) ((t k).f 0) (.int .i64 ((t k).f 27))
      else putI (putI (colL t P s k) ((t k).f 0) (.int .i64 ((t k).f 27))) ((t k).f 0) (.int .i64 (Go.bits .and .i64 (s k) 255))) else colL t P s k := by rw [colL]
open Classical in
theorem colT_eq (t : Nat → Pr) (P : Int) (s : Nat → Int) (k : Nat) : colT t P s (k + 1) = if isC t P k ∧ (t k).f 2 ≠ 3 then exitT (colT t P s k) k (s k) else colT t P s k := by rw [colT]
theorem colL_step {t : Nat → Pr} {P : Int} {s : Nat → Int} {k : Nat} (h : isC t P k) (x : Int) : getI (colL t P s (k + 1)) x = if x = (t k).f 0 then some (.int .i64 (stat t s k)) else getI (colL t P s k) x := by
  rw [colL_eq, if_pos h]; unfold stat
  split
  · rw [getI_putI]
  · rw [getI_putI, getI_putI]; split <;> rfl
theorem colL_keep {t : Nat → Pr} {P : Int} {s : Nat → Int} {k : Nat} (h : ¬ isC t P k) : colL t P s (k + 1) = colL t P s k := by
  rw [colL_eq, if_neg h]
theorem colL_nodup (t : Nat → Pr) (P : Int) (s : Nat → Int) : ∀ k, (keys (colL t P s k)).Nodup
  | 0 => by simp [colL, keys]
  | k + 1 => by
    have ih := colL_nodup t P s k
    rw [colL_eq]
    split
    · split
      · exact nodup_put ih _ _
      · exact nodup_put (nodup_put ih _ _) _ _
    · exact ih
theorem uniq {t : Nat → Pr} (h : RightP t) {i k : Nat} (hi : i < 8) (hk : k < 8) (h1 : (t i).f 2 ≠ 0) (h2 : (t k).f 2 ≠ 0) (he : (t i).f 0 = (t k).f 0) : i = k := by
  rcases Nat.lt_trichotomy i k with hl | hl | hl
  · exact absurd he.symm (h.2 k i hk hl h2 h1)
  · exact hl
  · exact absurd he (h.2 i k hi hl h1 h2)
theorem colL_fwd {t : Nat → Pr} {P : Int} {s : Nat → Int} (h : RightP t) : ∀ k, k ≤ 8 → (∀ x v, getI (colL t P s k) x = some v → ∃ c, c < k ∧ isC t P c ∧ x = (t c).f 0 ∧ v = .int .i64 (stat t s c)) ∧ (∀ c, c < k → isC t P c → getI (colL t P s k) ((t c).f 0) = some (.int .i64 (stat t s c)))
  | 0, _ => ⟨fun x v hx => by simp [colL, getI] at hx, fun c hc => by omega⟩
  | k + 1, hk => by
    obtain ⟨h1, h2⟩ := colL_fwd (P := P) (s := s) h k (by omega)
    by_cases hc : isC t P k
    · refine ⟨fun x v hx => ?_, fun c hck hcc => ?_⟩
      · rw [colL_step hc] at hx
        split at hx
        · rename_i e; exact ⟨k, by omega, hc, e, (Option.some.inj hx).symm⟩
        · obtain ⟨c, a, b⟩ := h1 x v hx; exact ⟨c, by omega, b⟩
      · rw [colL_step hc]
        by_cases e : c = k
        · subst e; rw [if_pos rfl]
        · rw [if_neg (fun he => e (uniq h (by omega) (by omega) hcc.1 hc.1 he))]; exact h2 c (by omega) hcc
    · rw [colL_keep hc]
      refine ⟨fun x v hx => ?_, fun c hck hcc => ?_⟩
      · obtain ⟨c, a, b⟩ := h1 x v hx; exact ⟨c, by omega, b⟩
      · by_cases e : c = k
        · subst e; exact absurd hcc hc
        · exact h2 c (by omega) hcc
theorem wk_id {P : Int} {m : Nat} {p : Pr} (h : p.f 0 ≠ P ∨ p.f 2 ≠ 2) : wkF P m p = p := by
  unfold wkF; rw [if_neg (by rintro ⟨a, b, c⟩; rcases h with h | h; exact h c; exact h a)]
theorem ex_id {i : Nat} {pid : Int} {m : Nat} {p : Pr} (h : p.f 1 ≠ pid) : exF i pid m p = p := by
  unfold exF; rw [if_neg (by rintro ⟨a, b, c⟩; exact h c)]
/-- What holds of the table when the first k entries have been looked at. -/
structure Col (t : Nat → Pr) (P : Int) (s : Nat → Int) (k : Nat) (T : Nat → Pr) : Prop where
  right : RightP T
  done : ∀ c, c < 8 → c < k → isC t P c → (T c).f 2 = 3 ∧ (T c).f 1 = P ∧ (T c).f 0 = (t c).f 0 ∧ (T c).f 27 = stat t s c
  todo : ∀ c, c < 8 → k ≤ c → isC t P c → T c = t c
  other : ∀ m, m < 8 → ¬ isC t P m → (T m).f 2 = 0 ∨ (T m).f 1 ≠ P
theorem col_all {t : Nat → Pr} {P : Int} {s : Nat → Int} (h : RightP t) (hP : 1 ≤ P) (hno : ∀ m, m < 8 → (t m).f 2 ≠ 0 → (t m).f 1 = P → (t m).f 0 ≠ P) : ∀ k, k ≤ 8 → Col t P s k (colT t P s k)
  | 0, _ => ⟨h, fun c _ hc => by omega, fun c _ _ _ => rfl, fun m hm hc => by
      by_cases h0 : (t m).f 2 = 0
      · exact Or.inl h0
      · by_cases h1 : (t m).f 1 = P
        · exact absurd ⟨h0, h1, hno m hm h0 h1⟩ hc
        · exact Or.inr h1⟩
  | k + 1, hk => by
    have ih := col_all (s := s) h hP hno k (by omega)
    have hk8 : k < 8 := by omega
    rw [colT_eq]
    by_cases hc : isC t P k ∧ (t k).f 2 ≠ 3
    · rw [if_pos hc]
      obtain ⟨hck, h3⟩ := hc
      have hTk := ih.todo k hk8 (Nat.le_refl _) hck
      have hat : ∀ m, m < 8 → exitT (colT t P s k) k (s k) m = wkF P m (if m = k then zomb ((t k).f 0) P (Go.bits .and .i64 (s k) 255) else exF k ((t k).f 0) m (colT t P s k m)) := fun m hm => by
        unfold exitT
        rw [if_pos ⟨by omega, by omega, by rw [Int.toNat_natCast, hTk]; exact hck.1, by rw [Int.toNat_natCast, hTk]; exact h3⟩, Int.toNat_natCast, exit_at _ _ _ hk8 _ hm, hTk, hck.2.1, if_neg (by omega)]
      refine ⟨exit_right _ _ ih.right, fun c hc8 hck1 hcc => ?_, fun c hc8 hkc hcc => ?_, fun m hm hmc => ?_⟩
      · rw [hat c hc8]
        by_cases e : c = k
        · subst e
          rw [if_pos rfl, wk_id (Or.inr (by show (3 : Int) ≠ 2; decide))]
          exact ⟨rfl, rfl, rfl, by show Go.bits .and .i64 (s c) 255 = stat t s c; unfold stat; rw [if_neg h3]⟩
        · obtain ⟨a1, a2, a3, a4⟩ := ih.done c hc8 (by omega) hcc
          rw [if_neg e, ex_id (by rw [a2]; exact fun he => hck.2.2 he.symm), wk_id (Or.inr (by rw [a1]; decide))]
          exact ⟨a1, a2, a3, a4⟩
      · have e : c ≠ k := by omega
        have a := ih.todo c hc8 (by omega) hcc
        rw [hat c hc8, if_neg e, a, ex_id (by rw [hcc.2.1]; exact fun he => hck.2.2 he.symm), wk_id (Or.inl hcc.2.2)]
      · have e : m ≠ k := fun e => hmc (e ▸ hck)
        have a := ih.other m hm hmc
        rw [hat m hm, if_neg e]
        have b : (exF k ((t k).f 0) m (colT t P s k m)).f 2 = 0 ∨ (exF k ((t k).f 0) m (colT t P s k m)).f 1 ≠ P := by
          rcases exF_cases k ((t k).f 0) m (colT t P s k m) with e1 | ⟨e1, _⟩ | ⟨e1, _⟩
          · rw [e1]; exact a
          · rw [e1]; exact Or.inl rfl
          · rw [e1, setf_same]; exact Or.inr (by omega)
        unfold wkF
        split
        · rename_i hw
          rcases b with b | b
          · omega
          · right; rw [rdy_f _ 1 (by decide) (by decide) (by decide)]; exact b
        · exact b
    · rw [if_neg hc]
      refine ⟨ih.right, fun c hc8 hck1 hcc => ?_, fun c hc8 hkc hcc => ih.todo c hc8 (by omega) hcc, ih.other⟩
      by_cases e : c = k
      · subst e
        have h3 : (t c).f 2 = 3 := by
          by_cases g : (t c).f 2 = 3
          · exact g
          · exact absurd ⟨hcc, g⟩ hc
        rw [ih.todo c hc8 (Nat.le_refl _) hcc]
        exact ⟨h3, hcc.2.1, rfl, by unfold stat; rw [if_pos h3]⟩
      · exact ih.done c hc8 (by omega) hcc
/-! ### collecting -/
/-- The table and the wanted pairs in the middle of the collecting. -/
structure Mid (t : Nat → Pr) (P : Int) (s : Nat → Int) (T T' : Nat → Pr) (L : List (Int × Value)) : Prop where
  nodup : (keys L).Nodup
  has : ∀ x v, getI L x = some v → ∃ c, c < 8 ∧ isC t P c ∧ x = (t c).f 0 ∧ v = .int .i64 (stat t s c)
  gone : ∀ m, m < 8 → (isC t P m ∧ getI L ((t m).f 0) = none ∧ T' m = zp) ∨ (T' m = T m ∧ (isC t P m → getI L ((t m).f 0) ≠ none))
theorem mid_start {t : Nat → Pr} {P : Int} {s : Nat → Int} (h : RightP t) (T : Nat → Pr) : Mid t P s T T (colL t P s 8) := by
  obtain ⟨h1, h2⟩ := colL_fwd (P := P) (s := s) h 8 (Nat.le_refl _)
  exact ⟨colL_nodup _ _ _ _, fun x v hx => by obtain ⟨c, a, b⟩ := h1 x v hx; exact ⟨c, a, b⟩, fun m hm => Or.inr ⟨rfl, fun hc => by rw [h2 m hm hc]; simp⟩⟩
theorem mid_zombie {t : Nat → Pr} {P : Int} {s : Nat → Int} {T T' : Nat → Pr} {L : List (Int × Value)} (hT : Col t P s 8 T) (hM : Mid t P s T T' L) {m : Nat} (hm : m < 8) (h0 : (T' m).f 2 ≠ 0) (h1 : (T' m).f 1 = P) : isC t P m ∧ getI L ((t m).f 0) ≠ none ∧ T' m = T m := by
  rcases hM.gone m hm with ⟨_, _, e⟩ | ⟨e, g⟩
  · rw [e] at h0; exact absurd rfl h0
  · rw [e] at h0 h1
    by_cases hc : isC t P m
    · exact ⟨hc, g hc, e⟩
    · rcases hT.other m hm hc with a | a
      · exact absurd a h0
      · exact absurd h1 a
/-- One is collected. -/
theorem mid_step {t : Nat → Pr} {P : Int} {s : Nat → Int} {T T' : Nat → Pr} {L : List (Int × Value)} (hr : RightP t) (hP : 1 ≤ P) (hT : Col t P s 8 T) (hM : Mid t P s T T' L) (hne : L.length ≠ 0) :
    ∃ z, z < 8 ∧ reapS T' P = (updT T' z zp, (t z).f 0, stat t s z, 0) ∧ getI L ((t z).f 0) = some (.int .i64 (stat t s z)) ∧ scan (fun i => (updT T' z zp i).f 2 != 0 && (updT T' z zp i).f 0 == (t z).f 0) 0 8 = -1 ∧ Mid t P s T (updT T' z zp) (delI L ((t z).f 0)) ∧ (delI L ((t z).f 0)).length + 1 = L.length := by
  obtain ⟨x, v, r, rfl⟩ : ∃ x v r, L = (x, v) :: r := by
    match L, hne with
    | (x, v) :: r, _ => exact ⟨x, v, r, rfl⟩
    | [], h => exact absurd rfl h
  have hx : getI ((x, v) :: r) x = some v := by unfold getI; rw [if_pos rfl]
  generalize (x, v) :: r = L at *
  obtain ⟨c, hc8, hcc, rfl, rfl⟩ := hM.has x v hx
  have hTc : T' c = T c := by
    rcases hM.gone c hc8 with ⟨_, e, _⟩ | ⟨e, _⟩
    · rw [e] at hx; cases hx
    · exact e
  obtain ⟨a1, a2, a3, a4⟩ := hT.done c hc8 hc8 hcc
  have hpos : 0 ≤ scan (childP T' P true) 0 8 := scan_some _ 8 (by decide) c (by omega) hc8 (by rw [childP_true, hTc, a1, a2]; simp)
  obtain ⟨z, hz8, hze, hzp⟩ := scan_ge _ _ _ hpos
  rw [childP_true] at hzp; simp only [Bool.and_eq_true, beq_iff_eq] at hzp
  obtain ⟨hzc, hzl, hzT⟩ := mid_zombie hT hM hz8 (by omega) hzp.2
  obtain ⟨b1, b2, b3, b4⟩ := hT.done z hz8 hz8 hzc
  have hget : getI L ((t z).f 0) = some (.int .i64 (stat t s z)) := by
    cases hg : getI L ((t z).f 0) with
    | none => exact absurd hg hzl
    | some u =>
      obtain ⟨c', hc', hcc', he, rfl⟩ := hM.has _ _ hg
      have := uniq hr hz8 hc' hzc.1 hcc'.1 he
      subst this; rfl
  refine ⟨z, hz8, ?_, hget, ?_, ⟨nodup_del _ hM.nodup, fun x v hxv => ?_, fun m hm => ?_⟩, len_del hget⟩
  · unfold reapS; rw [if_neg (by omega), if_pos hpos, hze, Int.toNat_natCast, hzT, b3, b4]
  · by_cases hs : 0 ≤ scan (fun i => (updT T' z zp i).f 2 != 0 && (updT T' z zp i).f 0 == (t z).f 0) 0 8
    · exfalso
      obtain ⟨m, hm, _, hmp⟩ := scan_ge _ _ _ hs
      simp only [Bool.and_eq_true, bne_iff_ne, ne_eq, beq_iff_eq] at hmp
      obtain ⟨g1, g2⟩ := hmp
      by_cases e : m = z
      · subst e; rw [updT_same] at g1; exact g1 rfl
      · rw [updT_other _ _ _ _ e] at g1 g2
        rcases hM.gone m hm with ⟨_, _, e2⟩ | ⟨e2, _⟩
        · rw [e2] at g1; exact g1 rfl
        · rw [e2] at g1 g2
          exact e (uniq hT.right hm hz8 g1 (by omega) (by rw [g2, b3]))
    · exact scan_neg _ _ _ hs
  · rw [getI_delI _ hM.nodup] at hxv
    split at hxv
    · cases hxv
    · exact hM.has x v hxv
  · by_cases e : m = z
    · subst e; left; exact ⟨hzc, by rw [getI_delI _ hM.nodup, if_pos rfl], updT_same _ _ _⟩
    · rw [updT_other _ _ _ _ e, getI_delI _ hM.nodup]
      by_cases hmc : isC t P m
      · rw [if_neg (fun he => e (uniq hr hm hz8 hmc.1 hzc.1 he))]; exact hM.gone m hm
      · rcases hM.gone m hm with ⟨g, _⟩ | ⟨g, _⟩
        · exact absurd g hmc
        · exact Or.inr ⟨g, fun h => absurd h hmc⟩
theorem mid_end {t : Nat → Pr} {P : Int} {s : Nat → Int} {T T' : Nat → Pr} {L : List (Int × Value)} (hP : 1 ≤ P) (hT : Col t P s 8 T) (hM : Mid t P s T T' L) (h0 : L.length = 0) : reapS T' P = (tz, 0, 0, 25) := by
  obtain rfl : L = [] := List.eq_nil_of_length_eq_zero h0
  have hno : ∀ m, m < 8 → (T' m).f 2 ≠ 0 → (T' m).f 1 ≠ P := fun m hm h1 h2 => (mid_zombie hT hM hm h1 h2).2.1 rfl
  have hz : ∀ z, ¬ 0 ≤ scan (childP T' P z) 0 8 := fun z hs => by
    obtain ⟨m, hm, _, hp⟩ := scan_ge _ _ _ hs
    unfold childP at hp; simp only [Bool.and_eq_true, bne_iff_ne, ne_eq, beq_iff_eq] at hp
    exact hno m hm hp.1.1 hp.1.2
  unfold reapS; rw [if_neg (by omega), if_neg (hz true), if_neg (hz false)]
end Go.Proofs.Ytnnknhcdnklalaa.A
