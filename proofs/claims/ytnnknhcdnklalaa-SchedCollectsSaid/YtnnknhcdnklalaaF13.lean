/- The reference's Next, resident and Victim: what each call returns. No condition. -/
import Derived.Test.YtnnknhcdnklalaaF12
namespace Go.Proofs.Ytnnknhcdnklalaa.A
open Go Go.RowKit
set_option linter.unusedSimpArgs false
set_option linter.unusedVariables false
theorem Ord.below {w w' : World} {g s B : Nat} (h : Ord w g s) (hb : Below B w w') (hg : g < B) : Ord w' g s := fun j hj => by rw [hb.cell hg]; exact h j hj
set_option maxHeartbeats 2000000 in
theorem rnext_v (t : Nat → Pr) (a : Int) (w : World) : Calls Try.prog 23 #[.agg (tcs t), .int .i64 a] w fun e w' => e = .returned (.int .i64 (scan (fun i => (t i).f 2 == 1) (start a) 8)) ∧ Below w.heap.size w w' := by
  generalize hp : (fun i => (t i).f 2 == 1) = p
  have hpp : ∀ i, p i = ((t i).f 2 == 1) := fun i => by rw [← hp]
  clear hp
  have hk0 := Blk.new w t
  have hB0 := Below.alloc (Below.refl w.heap.size w) (Nat.le_refl _) (.cells (tcs t) 29)
  have hac := after_v a (w.alloc (.cells (tcs t) 29))
  generalize start a = s at *
  go_enter Try.func23, Try.ntmps23
  go_wp2_with (first
    | (go_at_call 41; refine hac.mono ?_; rintro e w1 ⟨g, cap, rfl, hg, hg2, ho, hb⟩; have hk1 := hk0.below hb hk0.lt; have hB1 := hidI (hB0.trans (hb.mono hB0.size)); have ho1 := hidI ho; clear ho hac hk0 hB0 hb))
  go_loopw [6] (fun v wr => ∃ k : Nat, k ≤ 8 ∧ v = .int .i64 k ∧ Blk wr w.heap.size t ∧ Ord wr g s ∧ Below w.heap.size w wr ∧ Hid (scan p s 8 = scan p s (8 - k))) (fun v _ => 8 - (intOf v).toNat)
  case atStart => exact ⟨0, by omega, rfl, hk1, ho1.out, hB1.out, rfl⟩
  case round =>
    obtain ⟨k, hk, rfl, hblk, hord, hbel, hv⟩ := hrel
    have HB := hidI hbel; clear hbel
    by_cases hk8 : k < 8
    · have hlt : (k : Int) < 8 := by omega
      have hlo : (0 : Int) ≤ k := by omega
      have hsc := scan_step p s k hk8
      have hi8 : (s + k) % 8 < 8 := by omega
      have hcg := hord k hk8
      have HO := hidI hord; clear hord
      generalize (s + k) % 8 = i at *
      have hi8' : (i : Int) < 8 := by omega
      have hi0 : (0 : Int) ≤ i := by omega
      have c2 := hblk.int i 2 hi8 (by decide) (by decide)
      have c15 := hblk.sw i hi8
      rw [hpp i] at hsc
      cases h1 : ((t i).f 2 == 1)
      · have HV : Hid (scan p s 8 = scan p s (8 - (k + 1))) := by rw [Hid, hv.out, hsc]; simp [*]
        clear hsc hv hpp
        go_wp2
        go_roundw
        case measure => simp [intOf]; omega
        case rel => exact ⟨k + 1, by omega, by go_num, hblk, HO.out, HB.out, HV⟩
      · have HV : Hid (scan p s 8 = i) := by rw [Hid, hv.out, hsc]; simp [*]
        clear hsc hv hpp
        go_wp2
        go_ret
        exact ⟨ret_int HV.out.symm, HB.out⟩

    · obtain rfl : k = 8 := by omega
      rw [show ((8 : Nat) : Int) = 8 from rfl]
      clear hpp
      go_wp2
      go_ret
      exact ⟨ret_int (by rw [hv.out]; rfl), HB.out⟩
set_option maxHeartbeats 4000000 in
theorem resident_v (t : Nat → Pr) (a st : Int) (w : World) : Calls Try.prog 43 #[.agg (tcs t), .int .i64 a, .int .i64 st] w fun e w' => e = .returned (.int .i64 (scan (pvic t st a) (start a) 8)) ∧ Below w.heap.size w w' := by
  have hpp : ∀ i, pvic t st a i = (((t i).f 2 == st && !(t i).sw) && (i : Int) != a) := fun i => rfl
  generalize pvic t st a = p at *
  have hk0 := Blk.new w t
  have hB0 := Below.alloc (Below.refl w.heap.size w) (Nat.le_refl _) (.cells (tcs t) 29)
  have hac := after_v a (w.alloc (.cells (tcs t) 29))
  generalize start a = s at *
  go_enter Try.func43, Try.ntmps43
  go_wp2_with (first
    | (go_at_call 41; refine hac.mono ?_; rintro e w1 ⟨g, cap, rfl, hg, hg2, ho, hb⟩; have hk1 := hk0.below hb hk0.lt; have hB1 := hidI (hB0.trans (hb.mono hB0.size)); have ho1 := hidI ho; clear ho hac hk0 hB0 hb))
  go_loopw [8] (fun v wr => ∃ k : Nat, k ≤ 8 ∧ v = .int .i64 k ∧ Blk wr w.heap.size t ∧ Ord wr g s ∧ Below w.heap.size w wr ∧ Hid (scan p s 8 = scan p s (8 - k))) (fun v _ => 8 - (intOf v).toNat)
  case atStart => exact ⟨0, by omega, rfl, hk1, ho1.out, hB1.out, rfl⟩
  case round =>
    obtain ⟨k, hk, rfl, hblk, hord, hbel, hv⟩ := hrel
    have HB := hidI hbel; clear hbel
    by_cases hk8 : k < 8
    · have hlt : (k : Int) < 8 := by omega
      have hlo : (0 : Int) ≤ k := by omega
      have hsc := scan_step p s k hk8
      have hi8 : (s + k) % 8 < 8 := by omega
      have hcg := hord k hk8
      have HO := hidI hord; clear hord
      generalize (s + k) % 8 = i at *
      have hi8' : (i : Int) < 8 := by omega
      have hi0 : (0 : Int) ≤ i := by omega
      have c2 := hblk.int i 2 hi8 (by decide) (by decide)
      have c15 := hblk.sw i hi8
      rw [hpp i] at hsc
      cases h1 : ((i : Int) != a)
      · have HV : Hid (scan p s 8 = scan p s (8 - (k + 1))) := by rw [Hid, hv.out, hsc]; simp [*]
        clear hsc hv hpp
        go_wp2
        go_roundw
        case measure => simp [intOf]; omega
        case rel => exact ⟨k + 1, by omega, by go_num, hblk, HO.out, HB.out, HV⟩
      · cases h2 : ((t i).f 2 == st)
        · have HV : Hid (scan p s 8 = scan p s (8 - (k + 1))) := by rw [Hid, hv.out, hsc]; simp [*]
          clear hsc hv hpp
          go_wp2
          go_roundw
          case measure => simp [intOf]; omega
          case rel => exact ⟨k + 1, by omega, by go_num, hblk, HO.out, HB.out, HV⟩
        · cases h3 : (t i).sw
          · have HV : Hid (scan p s 8 = i) := by rw [Hid, hv.out, hsc]; simp [*]
            clear hsc hv hpp
            go_wp2
            go_ret
            exact ⟨ret_int HV.out.symm, HB.out⟩
          · have HV : Hid (scan p s 8 = scan p s (8 - (k + 1))) := by rw [Hid, hv.out, hsc]; simp [*]
            clear hsc hv hpp
            go_wp2
            go_roundw
            case measure => simp [intOf]; omega
            case rel => exact ⟨k + 1, by omega, by go_num, hblk, HO.out, HB.out, HV⟩

    · obtain rfl : k = 8 := by omega
      rw [show ((8 : Nat) : Int) = 8 from rfl]
      clear hpp
      go_wp2
      go_ret
      exact ⟨ret_int (by rw [hv.out]; rfl), HB.out⟩
set_option maxHeartbeats 2000000 in
theorem rvictim_v (t : Nat → Pr) (a : Int) (w : World) : Calls Try.prog 25 #[.agg (tcs t), .int .i64 a] w fun e w' => e = .returned (.int .i64 (victimS t a)) ∧ Below w.heap.size w w' := by
  have hk0 := Blk.new w t
  have hB0 := Below.alloc (Below.refl w.heap.size w) (Nat.le_refl _) (.cells (tcs t) 29)
  have hc1 := resident_v t a 2 (w.alloc (.cells (tcs t) 29))
  cases hv : decide (0 ≤ scan (pvic t 2 a) (start a) 8)
  · have hn : ¬ 0 ≤ scan (pvic t 2 a) (start a) 8 := by simpa using hv
    have hm1 := scan_neg _ _ _ hn
    rw [hm1] at hc1
    have HS : Hid (victimS t a = scan (pvic t 1 a) (start a) 8) := by unfold Hid victimS; rw [if_neg hn]
    clear hv hn hm1
    have hc2 := fun W => resident_v t a 1 W
    generalize scan (pvic t 1 a) (start a) 8 = z at *
    go_enter Try.func25, Try.ntmps25
    go_wp2_with (first
      | (refine st_load29 (by rfl) rfl rfl hk0 ?_)
      | (go_at_call 43; refine hc1.mono ?_; rintro e w1 ⟨rfl, hb1⟩; have hk1 := hk0.below hb1 hk0.lt; have hB1 := hidI (hB0.trans (hb1.mono hB0.size)); clear hc1 hk0 hB0 hb1)
      | (refine st_load29 (by rfl) rfl rfl hk1 ?_)
      | (go_at_call 43; refine (hc2 _).mono ?_; rintro e w2 ⟨rfl, hb2⟩; have hB2 := hidI (hB1.out.trans (hb2.mono hB1.out.size)); clear hc2 hb2))
    go_ret
    exact ⟨ret_int HS.out.symm, hB2.out⟩
  · have hvv : 0 ≤ scan (pvic t 2 a) (start a) 8 := by simpa using hv
    have HS : Hid (victimS t a = scan (pvic t 2 a) (start a) 8) := by unfold Hid victimS; rw [if_pos hvv]
    generalize scan (pvic t 2 a) (start a) 8 = z at *
    clear hv
    go_enter Try.func25, Try.ntmps25
    go_wp2_with (first
      | (refine st_load29 (by rfl) rfl rfl hk0 ?_)
      | (go_at_call 43; refine hc1.mono ?_; rintro e w1 ⟨rfl, hb1⟩; have hB1 := hidI (hB0.trans (hb1.mono hB0.size)); clear hc1 hk0 hB0 hb1))
    go_ret
    exact ⟨ret_int HS.out.symm, hB1.out⟩
end Go.Proofs.Ytnnknhcdnklalaa.A
