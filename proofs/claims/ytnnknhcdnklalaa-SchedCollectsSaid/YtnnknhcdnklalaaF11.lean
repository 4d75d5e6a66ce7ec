/- The reference's Reap: what it returns. No condition. -/
import Derived.Test.YtnnknhcdnklalaaF10
namespace Go.Proofs.Ytnnknhcdnklalaa.A
open Go Go.RowKit
set_option linter.unusedSimpArgs false
set_option linter.unusedVariables false
def liv (t : Nat → Pr) (n : Int) (k : Nat) : Bool := (List.range k).any fun j => (t j).f 2 != 0 && (t j).f 1 == n
theorem liv_succ (t : Nat → Pr) (n : Int) (k : Nat) : liv t n (k + 1) = (liv t n k || ((t k).f 2 != 0 && (t k).f 1 == n)) := by
  unfold liv; rw [List.range_succ, List.any_append]; simp
theorem childP_true (t : Nat → Pr) (n : Int) (i : Nat) : childP t n true i = ((t i).f 2 == 3 && (t i).f 1 == n) := by
  unfold childP
  simp only [bne]
  by_cases h : (t i).f 2 = 3
  · simp [h]
  · have hb : ((t i).f 2 == 3) = false := by simpa using h
    by_cases h0 : (t i).f 2 = 0
    · simp [h0]
    · have hb0 : ((t i).f 2 == 0) = false := by simpa using h0
      simp [hb, hb0]
theorem scan_none (p : Nat → Bool) : ∀ n, n ≤ 8 → scan p 0 n = -1 → ∀ i, 8 - n ≤ i → i < 8 → p i = false
  | 0, _, _, i, h1, h2 => absurd h1 (by omega)
  | n + 1, hn, h, i, h1, h2 => by
    unfold scan at h
    have e : (0 + (8 - (n + 1))) % 8 = 8 - (n + 1) := by omega
    rw [e] at h
    by_cases hp : p (8 - (n + 1)) = true
    · rw [if_pos hp] at h; omega
    · rw [if_neg hp] at h
      by_cases ei : i = 8 - (n + 1)
      · subst ei; simpa using hp
      · exact scan_none p n (by omega) h i (by omega) h2
theorem scan_some (p : Nat → Bool) : ∀ n, n ≤ 8 → ∀ i, 8 - n ≤ i → i < 8 → p i = true → 0 ≤ scan p 0 n
  | 0, _, i, h1, h2, _ => absurd h1 (by omega)
  | n + 1, hn, i, h1, h2, hp => by
    unfold scan
    have e : (0 + (8 - (n + 1))) % 8 = 8 - (n + 1) := by omega
    rw [e]
    by_cases hq : p (8 - (n + 1)) = true
    · rw [if_pos hq]; omega
    · rw [if_neg hq]
      by_cases ei : i = 8 - (n + 1)
      · subst ei; exact absurd hp hq
      · exact scan_some p n (by omega) i (by omega) h2 hp
theorem liv_scan (t : Nat → Pr) (n : Int) (h : scan (childP t n true) 0 8 = -1) : liv t n 8 = decide (0 ≤ scan (childP t n false) 0 8) := by
  have hz := scan_none _ 8 (by decide) h
  have key : ∀ i, i < 8 → childP t n false i = ((t i).f 2 != 0 && (t i).f 1 == n) := fun i hi => by
    have h1 := hz i (by omega) hi
    unfold childP at h1 ⊢
    cases h2 : ((t i).f 2 != 0 && (t i).f 1 == n) <;> simp [h2] at h1 ⊢
    obtain ⟨a, b⟩ := h1
    exact ⟨a, b⟩
  rw [Bool.eq_iff_iff, decide_eq_true_iff]
  constructor
  · intro hl
    unfold liv at hl
    obtain ⟨i, hi, hp⟩ := List.any_eq_true.1 hl
    have hi8 : i < 8 := List.mem_range.1 hi
    exact scan_some _ 8 (by decide) i (by omega) hi8 (by rw [key i hi8]; exact hp)
  · intro hs
    obtain ⟨i, hi, _, hp⟩ := scan_ge _ _ _ hs
    unfold liv
    exact List.any_eq_true.2 ⟨i, List.mem_range.2 hi, by rw [← key i hi]; exact hp⟩
set_option maxHeartbeats 4000000 in
theorem rreap_v (t : Nat → Pr) (n : Int) (w : World) : Calls Try.prog 17 #[.agg (tcs t), .int .i64 n] w fun e w' => e = .returned (tup4 (reapS t n)) ∧ Below w.heap.size w w' := by
  have hk0 := ((Blk.new w t).alloc (.cells (tcs tz) 29)).alloc (.cells (tcs tz) 29)
  have hz0 : Blk (((w.alloc (.cells (tcs t) 29)).alloc (.cells (tcs tz) 29)).alloc (.cells (tcs tz) 29)) (w.heap.size + 1) tz := Blk.alloc (heap_alloc2_new _ _ _) _
  have hy0 : Blk (((w.alloc (.cells (tcs t) 29)).alloc (.cells (tcs tz) 29)).alloc (.cells (tcs tz) 29)) (w.heap.size + 1 + 1) tz := by
    have := Blk.new ((w.alloc (.cells (tcs t) 29)).alloc (.cells (tcs tz) 29)) tz
    rw [show ((w.alloc (.cells (tcs t) 29)).alloc (.cells (tcs tz) 29)).heap.size = w.heap.size + 1 + 1 by simp] at this
    exact this
  have hB0 := hidI (((Below.alloc (Below.refl w.heap.size w) (Nat.le_refl _) (.cells (tcs t) 29)).alloc (by simp) (.cells (tcs tz) 29)).alloc (by simp; omega) (.cells (tcs tz) 29))
  by_cases hn : n < 1
  · have HS : Hid (reapS t n = (tz, 0, 0, 25)) := if_pos hn
    go_enter Try.func17, Try.ntmps17
    go_wp2_with (first
      | (refine st_alloc29 (by rfl) rfl ?_; try go_simp)
      | (refine st_build29 (by rfl) rfl ?_)
      | (refine st_store29 (x := .tmp 8) (by rfl) rfl rfl rfl hy0 ?_; intro w2 hy2 hu2; have hz2 := hu2.blk hz0 (by omega))
      | (refine st_load29 (by rfl) rfl rfl hy2 ?_)
      | (refine st_store29 (x := .tmp 4) (by rfl) rfl rfl rfl hz2 ?_; intro w3 hz3 hu3))
    exact bodyPost_ret (v := tup4 (tz, 0, 0, 25)) (by simp [results, Try.results17, asAddr]; rw [hz3.loadv]; rfl) rfl ⟨ret4 HS.out.symm, (hB0.out.trans (hu2.below (by omega))).trans (hu3.below (by omega))⟩
  · have hd : decide (n < 1) = false := by simpa using hn
    have HN := hidI hn; clear hn
    go_enter Try.func17, Try.ntmps17
    go_wp2_with (first
      | (refine st_alloc29 (by rfl) rfl ?_; try go_simp)
      | (refine st_build29 (by rfl) rfl ?_)
      | (refine st_store29 (x := .tmp 8) (by rfl) rfl rfl rfl hy0 ?_; intro w2 hy2 hu2))
    have hz2 := hu2.blk hz0 (by omega)
    have hk2 := hu2.blk hk0 (by omega)
    have hB2 := hidI (hB0.out.trans (hu2.below (by omega)))
    clear hu2 hk0 hz0 hy0 hB0
    go_loopw [9, 10] (fun l v wr => ∃ k : Nat, k ≤ 8 ∧ v = .int .i64 k ∧ l = .bool (liv t n k) ∧ Blk wr w.heap.size t ∧ Blk wr (w.heap.size + 1) tz ∧ Blk wr (w.heap.size + 1 + 1) tz ∧ Below w.heap.size w wr ∧ Hid (scan (childP t n true) 0 8 = scan (childP t n true) 0 (8 - k))) (fun _ v _ => 8 - (intOf v).toNat)
    case atStart => exact ⟨0, by omega, rfl, rfl, hk2, hz2, hy2, hB2.out, rfl⟩
    case round =>
      obtain ⟨k, hk, rfl, rfl, hblk, hz, hy, hbel, hv⟩ := hrel
      have HB := hidI hbel; clear hbel
      by_cases hk8 : k < 8
      · have hlt : (k : Int) < 8 := by omega
        have hsc := scan_step0 (childP t n true) k hk8
        rw [childP_true] at hsc
        have hls := liv_succ t n k
        have c2 := hblk.int k 2 hk8 (by decide) (by decide)
        have c1 := hblk.int k 1 hk8 (by decide) (by decide)
        have c0 := hblk.int0 k hk8
        have c27 := hblk.int k 27 hk8 (by decide) (by decide)
        generalize hL : liv t n k = L at *
        by_cases h3 : (t k).f 2 = 3
        · rw [h3] at c2 hsc hls
          cases h1 : ((t k).f 1 == n)
          · have HV : Hid (scan (childP t n true) 0 8 = scan (childP t n true) 0 (8 - (k + 1))) := by rw [hv.out, hsc, h1]; rfl
            have HL : Hid (liv t n (k + 1) = L) := by rw [Hid, hls, h1]; simp
            clear hv hsc hls h3 hL
            cases L
            all_goals
              go_wp2
              go_roundw
              case measure => simp [intOf]; omega
              case rel => exact ⟨k + 1, by omega, by go_num, by rw [HL.out], hblk, hz, hy, HB.out, HV⟩
          · have HV : Hid (scan (childP t n true) 0 8 = k) := by rw [Hid, hv.out, hsc, h1]; rfl
            have HS : Hid (reapS t n = (updT t k zp, (t k).f 0, (t k).f 27, 0)) := by unfold Hid reapS; rw [if_neg (by have := HN.out; omega), HV.out, if_pos (by omega)]; simp
            clear hv hsc hls h3 hL
            go_wp2_with (first
              | (refine st_build28 (by rfl) rfl ?_)
              | (refine st_store28 (by rfl) rfl rfl rfl hblk hk8 ?_; intro w4 hk4 hu4; have hz4 := hu4.blk hz (by omega))
              | (refine st_load29 (by rfl) rfl rfl hk4 ?_)
              | (refine st_store29 (x := .tmp 4) (by rfl) rfl rfl rfl hz4 ?_; intro w5 hz5 hu5))
            exact bodyPost_ret (v := tup4 (updT t k zp, (t k).f 0, (t k).f 27, 0)) (by simp [results, Try.results17, asAddr]; rw [hz5.loadv]; rfl) rfl ⟨ret4 HS.out.symm, (HB.out.trans (hu4.below (by omega))).trans (hu5.below (by omega))⟩
        · have h3b : ((t k).f 2 == 3) = false := by simpa using h3
          clear h3
          rw [h3b] at hsc
          have HV : Hid (scan (childP t n true) 0 8 = scan (childP t n true) 0 (8 - (k + 1))) := by rw [hv.out, hsc]; rfl
          clear hv hsc
          cases L
          · cases h0 : ((t k).f 2 != 0)
            · have HL : Hid (liv t n (k + 1) = false) := by rw [Hid, hls, h0]; rfl
              clear hls hL
              go_wp2
              go_roundw
              case measure => simp [intOf]; omega
              case rel => exact ⟨k + 1, by omega, by go_num, by rw [HL.out], hblk, hz, hy, HB.out, HV⟩
            · cases h1 : ((t k).f 1 == n)
              · have HL : Hid (liv t n (k + 1) = false) := by rw [Hid, hls, h0, h1]; rfl
                clear hls hL
                go_wp2
                go_roundw
                case measure => simp [intOf]; omega
                case rel => exact ⟨k + 1, by omega, by go_num, by rw [HL.out], hblk, hz, hy, HB.out, HV⟩
              · have HL : Hid (liv t n (k + 1) = true) := by rw [Hid, hls, h0, h1]; rfl
                clear hls hL
                go_wp2
                go_roundw
                case measure => simp [intOf]; omega
                case rel => exact ⟨k + 1, by omega, by go_num, by rw [HL.out], hblk, hz, hy, HB.out, HV⟩
          · have HL : Hid (liv t n (k + 1) = true) := by rw [Hid, hls]; rfl
            clear hls hL
            go_wp2
            go_roundw
            case measure => simp [intOf]; omega
            case rel => exact ⟨k + 1, by omega, by go_num, by rw [HL.out], hblk, hz, hy, HB.out, HV⟩
      · obtain rfl : k = 8 := by omega
        rw [show ((8 : Nat) : Int) = 8 from rfl]
        have hm : scan (childP t n true) 0 8 = -1 := by rw [hv.out]; rfl
        have hl := liv_scan t n hm
        have hneg : ¬ 0 ≤ scan (childP t n true) 0 8 := by rw [hm]; decide
        cases hf : decide (0 ≤ scan (childP t n false) 0 8)
        · have HS : Hid (reapS t n = (tz, 0, 0, 25)) := by unfold Hid reapS; rw [if_neg (by have := HN.out; omega), if_neg hneg, if_neg (by simpa using hf)]
          rw [hf] at hl; rw [hl]
          clear hl hf hm hneg hv
          go_wp2_with (first
            | (refine st_load29 (by rfl) rfl rfl hy ?_)
            | (refine st_store29 (x := .tmp 4) (by rfl) rfl rfl rfl hz ?_; intro w5 hz5 hu5))
          exact bodyPost_ret (v := tup4 (tz, 0, 0, 25)) (by simp [results, Try.results17, asAddr]; rw [hz5.loadv]; rfl) rfl ⟨ret4 HS.out.symm, HB.out.trans (hu5.below (by omega))⟩
        · have HS : Hid (reapS t n = (tz, 0, 0, 20)) := by unfold Hid reapS; rw [if_neg (by have := HN.out; omega), if_neg hneg, if_pos (by simpa using hf)]
          rw [hf] at hl; rw [hl]
          clear hl hf hm hneg hv
          go_wp2_with (first
            | (refine st_load29 (by rfl) rfl rfl hy ?_)
            | (refine st_store29 (x := .tmp 4) (by rfl) rfl rfl rfl hz ?_; intro w5 hz5 hu5))
          exact bodyPost_ret (v := tup4 (tz, 0, 0, 20)) (by simp [results, Try.results17, asAddr]; rw [hz5.loadv]; rfl) rfl ⟨ret4 HS.out.symm, HB.out.trans (hu5.below (by omega))⟩
end Go.Proofs.Ytnnknhcdnklalaa.A
