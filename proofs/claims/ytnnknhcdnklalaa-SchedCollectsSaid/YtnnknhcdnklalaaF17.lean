/- valid of the reference: what it returns. No condition. -/
import Derived.Test.YtnnknhcdnklalaaF16
namespace Go.Proofs.Ytnnknhcdnklalaa.A
open Go Go.RowKit
set_option linter.unusedSimpArgs false
set_option linter.unusedVariables false
theorem rg_lo {lo hi n : Int} (h : decide (n < lo) = true) : rg lo hi n = false := by unfold rg; simp at h; simp; omega
theorem rg_hi {lo hi n : Int} (h : decide (hi < n) = true) : rg lo hi n = false := by unfold rg; simp at h; simp; omega
theorem rg_in {lo hi n : Int} (h : decide (n < lo) = false) (h' : decide (hi < n) = false) : rg lo hi n = true := by unfold rg; simp at h h'; simp; omega
theorem rg_lo' {lo hi n : Int} (h : decide (lo ≤ n) = false) : rg lo hi n = false := by unfold rg; simp at h; simp; omega
theorem rg_hi' {lo hi n : Int} (h : decide (n ≤ hi) = false) : rg lo hi n = false := by unfold rg; simp at h; simp; omega
theorem rg_in' {lo hi n : Int} (h : decide (lo ≤ n) = true) (h' : decide (n ≤ hi) = true) : rg lo hi n = true := by unfold rg; simp at h h'; simp; omega
theorem rg_dir {n : Int} (h : decide (1 ≤ n) = true) : rg 1 31 n = decide (n < 32) := by unfold rg; simp at h; rw [Bool.eq_iff_iff]; simp; omega
theorem rg_last {lo hi n : Int} (h : decide (lo ≤ n) = true) : rg lo hi n = decide (n ≤ hi) := by unfold rg; simp at h; rw [Bool.eq_iff_iff]; simp; omega
set_option maxHeartbeats 4000000 in
set_option maxRecDepth 100000 in
theorem rvalid_v (p : Pr) (w : World) : Calls Try.prog 29 #[.agg (pcs p)] w fun e w' => e = .returned (.bool (validB p)) ∧ Below w.heap.size w w' := by
  have hq0 := PBlk.new w p
  have hB0 := Below.alloc (Below.refl w.heap.size w) (Nat.le_refl _) (.cells (pcs p) 28)
  have c2 := pcs_int p 2 (by decide) (by decide)
  have c0 := pcs_int p 0 (by decide) (by decide)
  have c1 := pcs_int p 1 (by decide) (by decide)
  have c27 := pcs_int p 27 (by decide) (by decide)
  by_cases h0 : p.f 2 = 0
  · have HV : Hid (validB p = eqP p zp) := by unfold Hid validB; rw [if_pos h0]
    rw [h0] at c2
    have HH := hidI h0; clear h0
    go_enter Try.func29, Try.ntmps29
    go_wp2_with (first
      | (refine st_pload28 (by rfl) rfl rfl hq0 ?_)
      | (refine st_build28 (by rfl) rfl ?_)
      | (refine st_eql28 (by rfl) rfl rfl rfl ?_))
    go_ret
    exact ⟨ret_bool HV.out.symm, hB0⟩
  have h0b : (p.f 2 == 0) = false := by simpa using h0
  have H0 := hidI h0; clear h0
  cases hpl : decide (p.f 0 < 1)
  rotate_left
  · have HV : Hid (validB p = false) := by unfold Hid validB; rw [if_neg H0.out, show rg 1 30000 (p.f 0) = false from rg_lo hpl]; simp
    go_enter Try.func29, Try.ntmps29
    go_wp2
    go_ret
    exact ⟨ret_bool HV.out.symm, hB0⟩
  cases hpu : decide (30000 < p.f 0)
  rotate_left
  · have HV : Hid (validB p = false) := by unfold Hid validB; rw [if_neg H0.out, show rg 1 30000 (p.f 0) = false from rg_hi hpu]; simp
    go_enter Try.func29, Try.ntmps29
    go_wp2
    go_ret
    exact ⟨ret_bool HV.out.symm, hB0⟩
  have hgp := rg_in (lo := 1) (hi := 30000) hpl hpu
  have HGp := hidI hgp; clear hgp
  cases hrl : decide (p.f 1 < 0)
  rotate_left
  · have HV : Hid (validB p = false) := by unfold Hid validB; rw [if_neg H0.out, show rg 1 30000 (p.f 0) = true from HGp.out, show rg 0 30000 (p.f 1) = false from rg_lo hrl]; simp
    go_enter Try.func29, Try.ntmps29
    go_wp2
    go_ret
    exact ⟨ret_bool HV.out.symm, hB0⟩
  cases hru : decide (30000 < p.f 1)
  rotate_left
  · have HV : Hid (validB p = false) := by unfold Hid validB; rw [if_neg H0.out, show rg 1 30000 (p.f 0) = true from HGp.out, show rg 0 30000 (p.f 1) = false from rg_hi hru]; simp
    go_enter Try.func29, Try.ntmps29
    go_wp2
    go_ret
    exact ⟨ret_bool HV.out.symm, hB0⟩
  have hgr := rg_in (lo := 0) (hi := 30000) hrl hru
  have HGr := hidI hgr; clear hgr
  cases hsl : decide (p.f 27 < 0)
  rotate_left
  · have HV : Hid (validB p = false) := by unfold Hid validB; rw [if_neg H0.out, show rg 1 30000 (p.f 0) = true from HGp.out, show rg 0 30000 (p.f 1) = true from HGr.out, show rg 0 255 (p.f 27) = false from rg_lo hsl]; simp
    go_enter Try.func29, Try.ntmps29
    go_wp2
    go_ret
    exact ⟨ret_bool HV.out.symm, hB0⟩
  cases hsu : decide (255 < p.f 27)
  rotate_left
  · have HV : Hid (validB p = false) := by unfold Hid validB; rw [if_neg H0.out, show rg 1 30000 (p.f 0) = true from HGp.out, show rg 0 30000 (p.f 1) = true from HGr.out, show rg 0 255 (p.f 27) = false from rg_hi hsu]; simp
    go_enter Try.func29, Try.ntmps29
    go_wp2
    go_ret
    exact ⟨ret_bool HV.out.symm, hB0⟩
  have hgs := rg_in (lo := 0) (hi := 255) hsl hsu
  have HGs := hidI hgs; clear hgs
  by_cases h3 : p.f 2 = 3
  · have HV : Hid (validB p = eqP p (zomb (p.f 0) (p.f 1) (p.f 27))) := by unfold Hid validB; rw [if_neg H0.out, show rg 1 30000 (p.f 0) = true from HGp.out, show rg 0 30000 (p.f 1) = true from HGr.out, show rg 0 255 (p.f 27) = true from HGs.out, if_pos h3]; simp
    rw [h3] at c2 h0b
    have HH := hidI h3; clear h3
    go_enter Try.func29, Try.ntmps29
    go_wp2_with (first
      | (refine st_pload28 (by rfl) rfl rfl hq0 ?_)
      | (refine st_buildZ (by rfl) rfl rfl rfl rfl rfl ?_)
      | (refine st_eql28 (by rfl) rfl rfl rfl ?_))
    go_ret
    exact ⟨ret_bool HV.out.symm, hB0⟩
  have HV : Hid (validB p = ((allB (fdsP p) 8 && (p.f 2 == 1 || p.f 2 == 2)) && (((((regsB p && rg 0 511 (p.f 13)) && rg 1 512 (p.f 14)) && rg 1 31 (p.f 24)) && rg 0 50 (p.f 28)) && waitsB p))) := by
    unfold Hid validB; rw [if_neg H0.out, show rg 1 30000 (p.f 0) = true from HGp.out, show rg 0 30000 (p.f 1) = true from HGr.out, show rg 0 255 (p.f 27) = true from HGs.out, if_neg h3]; simp
  have h3b : (p.f 2 == 3) = false := by simpa using h3
  clear h3
  have hrg := regs_false
  clear hrg
  have hrg := rregs_v p (w.alloc (.cells (pcs p) 28))
  have hwt := fun W => rwaits_v p W
  have HB := hidI hB0; clear hB0
  cases h1 : (p.f 2 != 1)
  rotate_left
  · cases h2 : (p.f 2 != 2)
    rotate_left
    · have HF : Hid (validB p = false) := by
        have g1 : (p.f 2 == 1) = false := by simpa using h1
        have g2 : (p.f 2 == 2) = false := by simpa using h2
        rw [Hid, HV.out, g1, g2]; simp
      go_enter Try.func29, Try.ntmps29
      go_wp2
      go_ret
      exact ⟨ret_bool HF.out.symm, HB.out⟩
    · have HX : Hid ((p.f 2 == 1 || p.f 2 == 2) = true) := by
        have g2 : (p.f 2 == 2) = true := by simpa using h2
        rw [Hid, g2]; simp
      cases g0 : regsB p
      · simp only [g0] at hrg
        have HF : Hid (validB p = false) := by rw [Hid, HV.out, g0]; simp
        clear g0
        go_enter Try.func29, Try.ntmps29
        go_wp2_with (first
          | (refine st_load25 (by rfl) rfl rfl hq0 ?_)
          | (go_at_call 46; refine hrg.mono ?_; rintro e w1 ⟨rfl, hbl⟩; have hq1 := hq0.below hbl hq0.lt; have HB1 := hidI (HB.out.trans (hbl.mono HB.out.size)); clear hbl hrg)
          | (refine st_pload28 (by rfl) rfl rfl hq1 ?_)
          | (go_at_call 47; ((with_reducible refine (hwt _).mono ?_); rintro e w5 ⟨rfl, rfl⟩)))
        go_ret
        exact ⟨ret_bool HF.out.symm, HB1.out⟩
      simp only [g0] at hrg
      cases gw : waitsB p
      · simp only [gw] at hwt
        have HF : Hid (validB p = false) := by rw [Hid, HV.out, gw]; simp
        clear g0 gw
        go_enter Try.func29, Try.ntmps29
        go_wp2_with (first
          | (refine st_load25 (by rfl) rfl rfl hq0 ?_)
          | (go_at_call 46; refine hrg.mono ?_; rintro e w1 ⟨rfl, hbl⟩; have hq1 := hq0.below hbl hq0.lt; have HB1 := hidI (HB.out.trans (hbl.mono HB.out.size)); clear hbl hrg)
          | (refine st_pload28 (by rfl) rfl rfl hq1 ?_)
          | (go_at_call 47; ((with_reducible refine (hwt _).mono ?_); rintro e w5 ⟨rfl, rfl⟩)))
        go_ret
        exact ⟨ret_bool HF.out.symm, HB1.out.alloc HB1.out.size _⟩
      simp only [gw] at hwt
      have HW : Hid (validB p = (allB (fdsP p) 8 && (((rg 0 511 (p.f 13) && rg 1 512 (p.f 14)) && rg 1 31 (p.f 24)) && rg 0 50 (p.f 28)))) := by rw [Hid, HV.out, HX.out, g0, gw]; simp
      clear g0 gw
      go_enter Try.func29, Try.ntmps29
      go_wp2_with (first
        | (refine st_load25 (by rfl) rfl rfl hq0 ?_)
        | (go_at_call 46; refine hrg.mono ?_; rintro e w1 ⟨rfl, hbl⟩; have hq1 := hq0.below hbl hq0.lt; have HB1 := hidI (HB.out.trans (hbl.mono HB.out.size)); clear hbl hrg)
        | (refine st_pload28 (by rfl) rfl rfl hq1 ?_)
        | (go_at_call 47; ((with_reducible refine (hwt _).mono ?_); rintro e w5 ⟨rfl, rfl⟩)))
      have HB2 := hidI (HB1.out.alloc HB1.out.size (.cells (pcs p) 28))
      have hq2 := hq1.alloc (.cells (pcs p) 28)
      clear hwt hq1 hq0 HB HB1
      generalize w1.alloc (.cells (pcs p) 28) = W at *
      clear c0 c1 c27 c2
      go_loop [3] (fun v => ∃ k : Nat, k ≤ 8 ∧ v = .int .i64 k ∧ Hid (allB (fdsP p) k = true)) (fun v => 8 - (intOf v).toNat)
      case atStart => exact ⟨0, by omega, rfl, rfl⟩
      case round =>
        obtain ⟨k, hk, rfl, hv⟩ := hrel
        by_cases hk8 : k < 8
        · have hlt : (k : Int) < 8 := by omega
          have hlo : (0 : Int) ≤ k := by omega
          have hs := allB_succ (fdsP p) k
          have hff := allB_false (fdsP p) 8 k hk8
          have hcg := hq2.int (16 + k) (by omega) (by omega)
          have hfd : fdsP p k = rg 0 24 (p.f (16 + k)) := rfl
          generalize p.f (16 + k) = n at *
          cases hA : decide (n < 0)
          · cases hC : decide (24 < n)
            · have HS : Hid (allB (fdsP p) (k + 1) = true) := by rw [Hid, hs, hv.out, hfd, rg_in hA hC]; rfl
              clear hs hff hv hfd
              go_wp2
              go_round
              case measure => simp [intOf]; omega
              case rel => exact ⟨k + 1, by omega, by go_num, HS⟩
            · have HF : Hid (validB p = false) := by rw [Hid, HW.out, hff (by rw [hfd]; exact rg_hi hC)]; rfl
              clear hs hff hv hfd
              go_wp2
              go_ret
              exact ⟨ret_bool HF.out.symm, HB2.out⟩
          · have HF : Hid (validB p = false) := by rw [Hid, HW.out, hff (by rw [hfd]; exact rg_lo hA)]; rfl
            clear hs hff hv hfd
            go_wp2
            go_ret
            exact ⟨ret_bool HF.out.symm, HB2.out⟩
        · obtain rfl : k = 8 := by omega
          rw [show ((8 : Nat) : Int) = 8 from rfl]
          have HY : Hid (validB p = (((rg 0 511 (p.f 13) && rg 1 512 (p.f 14)) && rg 1 31 (p.f 24)) && rg 0 50 (p.f 28))) := by rw [Hid, HW.out, hv.out]; rfl
          have d13 := hq2.int 13 (by decide) (by decide)
          have d14 := hq2.int 14 (by decide) (by decide)
          have d24 := hq2.int 24 (by decide) (by decide)
          have d28 := hq2.int 28 (by decide) (by decide)
          clear hv
          cases eal : decide (0 ≤ p.f 13)
          · have HF : Hid (validB p = false) := by rw [Hid, HY.out, show rg 0 511 (p.f 13) = false from rg_lo' eal]; simp
            go_wp2
            go_ret
            exact ⟨ret_bool HF.out.symm, HB2.out⟩
          cases eau : decide (p.f 13 ≤ 511)
          · have HF : Hid (validB p = false) := by rw [Hid, HY.out, show rg 0 511 (p.f 13) = false from rg_hi' eau]; simp
            go_wp2
            go_ret
            exact ⟨ret_bool HF.out.symm, HB2.out⟩
          have HGa : Hid (rg 0 511 (p.f 13) = true) := rg_in' eal eau
          cases ebl : decide (1 ≤ p.f 14)
          · have HF : Hid (validB p = false) := by rw [Hid, HY.out, show rg 0 511 (p.f 13) = true from HGa.out, show rg 1 512 (p.f 14) = false from rg_lo' ebl]; simp
            go_wp2
            go_ret
            exact ⟨ret_bool HF.out.symm, HB2.out⟩
          cases ebu : decide (p.f 14 ≤ 512)
          · have HF : Hid (validB p = false) := by rw [Hid, HY.out, show rg 0 511 (p.f 13) = true from HGa.out, show rg 1 512 (p.f 14) = false from rg_hi' ebu]; simp
            go_wp2
            go_ret
            exact ⟨ret_bool HF.out.symm, HB2.out⟩
          have HGb : Hid (rg 1 512 (p.f 14) = true) := rg_in' ebl ebu
          cases ecl : decide (1 ≤ p.f 24)
          · have HF : Hid (validB p = false) := by rw [Hid, HY.out, show rg 0 511 (p.f 13) = true from HGa.out, show rg 1 512 (p.f 14) = true from HGb.out, show rg 1 31 (p.f 24) = false from rg_lo' ecl]; simp
            go_wp2
            go_ret
            exact ⟨ret_bool HF.out.symm, HB2.out⟩
          cases ecu : decide (p.f 24 < 32)
          · have HF : Hid (validB p = false) := by rw [Hid, HY.out, show rg 0 511 (p.f 13) = true from HGa.out, show rg 1 512 (p.f 14) = true from HGb.out, show rg 1 31 (p.f 24) = false from (rg_dir ecl).trans ecu]; simp
            go_wp2
            go_ret
            exact ⟨ret_bool HF.out.symm, HB2.out⟩
          have HGc : Hid (rg 1 31 (p.f 24) = true) := (rg_dir ecl).trans ecu
          cases edl : decide (0 ≤ p.f 28)
          · have HF : Hid (validB p = false) := by rw [Hid, HY.out, show rg 0 511 (p.f 13) = true from HGa.out, show rg 1 512 (p.f 14) = true from HGb.out, show rg 1 31 (p.f 24) = true from HGc.out, show rg 0 50 (p.f 28) = false from rg_lo' edl]; simp
            go_wp2
            go_ret
            exact ⟨ret_bool HF.out.symm, HB2.out⟩
          have HF : Hid (validB p = decide (p.f 28 ≤ 50)) := by rw [Hid, HY.out, show rg 0 511 (p.f 13) = true from HGa.out, show rg 1 512 (p.f 14) = true from HGb.out, show rg 1 31 (p.f 24) = true from HGc.out, rg_last edl]; simp
          go_wp2
          go_ret
          exact ⟨ret_bool HF.out.symm, HB2.out⟩
  · have HX : Hid ((p.f 2 == 1 || p.f 2 == 2) = true) := by
      have g1 : (p.f 2 == 1) = true := by simpa using h1
      rw [Hid, g1]; rfl
    cases g0 : regsB p
    · simp only [g0] at hrg
      have HF : Hid (validB p = false) := by rw [Hid, HV.out, g0]; simp
      clear g0
      go_enter Try.func29, Try.ntmps29
      go_wp2_with (first
        | (refine st_load25 (by rfl) rfl rfl hq0 ?_)
        | (go_at_call 46; refine hrg.mono ?_; rintro e w1 ⟨rfl, hbl⟩; have hq1 := hq0.below hbl hq0.lt; have HB1 := hidI (HB.out.trans (hbl.mono HB.out.size)); clear hbl hrg)
        | (refine st_pload28 (by rfl) rfl rfl hq1 ?_)
        | (go_at_call 47; ((with_reducible refine (hwt _).mono ?_); rintro e w5 ⟨rfl, rfl⟩)))
      go_ret
      exact ⟨ret_bool HF.out.symm, HB1.out⟩
    simp only [g0] at hrg
    cases gw : waitsB p
    · simp only [gw] at hwt
      have HF : Hid (validB p = false) := by rw [Hid, HV.out, gw]; simp
      clear g0 gw
      go_enter Try.func29, Try.ntmps29
      go_wp2_with (first
        | (refine st_load25 (by rfl) rfl rfl hq0 ?_)
        | (go_at_call 46; refine hrg.mono ?_; rintro e w1 ⟨rfl, hbl⟩; have hq1 := hq0.below hbl hq0.lt; have HB1 := hidI (HB.out.trans (hbl.mono HB.out.size)); clear hbl hrg)
        | (refine st_pload28 (by rfl) rfl rfl hq1 ?_)
        | (go_at_call 47; ((with_reducible refine (hwt _).mono ?_); rintro e w5 ⟨rfl, rfl⟩)))
      go_ret
      exact ⟨ret_bool HF.out.symm, HB1.out.alloc HB1.out.size _⟩
    simp only [gw] at hwt
    have HW : Hid (validB p = (allB (fdsP p) 8 && (((rg 0 511 (p.f 13) && rg 1 512 (p.f 14)) && rg 1 31 (p.f 24)) && rg 0 50 (p.f 28)))) := by rw [Hid, HV.out, HX.out, g0, gw]; simp
    clear g0 gw
    go_enter Try.func29, Try.ntmps29
    go_wp2_with (first
      | (refine st_load25 (by rfl) rfl rfl hq0 ?_)
      | (go_at_call 46; refine hrg.mono ?_; rintro e w1 ⟨rfl, hbl⟩; have hq1 := hq0.below hbl hq0.lt; have HB1 := hidI (HB.out.trans (hbl.mono HB.out.size)); clear hbl hrg)
      | (refine st_pload28 (by rfl) rfl rfl hq1 ?_)
      | (go_at_call 47; ((with_reducible refine (hwt _).mono ?_); rintro e w5 ⟨rfl, rfl⟩)))
    have HB2 := hidI (HB1.out.alloc HB1.out.size (.cells (pcs p) 28))
    have hq2 := hq1.alloc (.cells (pcs p) 28)
    clear hwt hq1 hq0 HB HB1
    generalize w1.alloc (.cells (pcs p) 28) = W at *
    clear c0 c1 c27 c2
    go_loop [3] (fun v => ∃ k : Nat, k ≤ 8 ∧ v = .int .i64 k ∧ Hid (allB (fdsP p) k = true)) (fun v => 8 - (intOf v).toNat)
    case atStart => exact ⟨0, by omega, rfl, rfl⟩
    case round =>
      obtain ⟨k, hk, rfl, hv⟩ := hrel
      by_cases hk8 : k < 8
      · have hlt : (k : Int) < 8 := by omega
        have hlo : (0 : Int) ≤ k := by omega
        have hs := allB_succ (fdsP p) k
        have hff := allB_false (fdsP p) 8 k hk8
        have hcg := hq2.int (16 + k) (by omega) (by omega)
        have hfd : fdsP p k = rg 0 24 (p.f (16 + k)) := rfl
        generalize p.f (16 + k) = n at *
        cases hA : decide (n < 0)
        · cases hC : decide (24 < n)
          · have HS : Hid (allB (fdsP p) (k + 1) = true) := by rw [Hid, hs, hv.out, hfd, rg_in hA hC]; rfl
            clear hs hff hv hfd
            go_wp2
            go_round
            case measure => simp [intOf]; omega
            case rel => exact ⟨k + 1, by omega, by go_num, HS⟩
          · have HF : Hid (validB p = false) := by rw [Hid, HW.out, hff (by rw [hfd]; exact rg_hi hC)]; rfl
            clear hs hff hv hfd
            go_wp2
            go_ret
            exact ⟨ret_bool HF.out.symm, HB2.out⟩
        · have HF : Hid (validB p = false) := by rw [Hid, HW.out, hff (by rw [hfd]; exact rg_lo hA)]; rfl
          clear hs hff hv hfd
          go_wp2
          go_ret
          exact ⟨ret_bool HF.out.symm, HB2.out⟩
      · obtain rfl : k = 8 := by omega
        rw [show ((8 : Nat) : Int) = 8 from rfl]
        have HY : Hid (validB p = (((rg 0 511 (p.f 13) && rg 1 512 (p.f 14)) && rg 1 31 (p.f 24)) && rg 0 50 (p.f 28))) := by rw [Hid, HW.out, hv.out]; rfl
        have d13 := hq2.int 13 (by decide) (by decide)
        have d14 := hq2.int 14 (by decide) (by decide)
        have d24 := hq2.int 24 (by decide) (by decide)
        have d28 := hq2.int 28 (by decide) (by decide)
        clear hv
        cases eal : decide (0 ≤ p.f 13)
        · have HF : Hid (validB p = false) := by rw [Hid, HY.out, show rg 0 511 (p.f 13) = false from rg_lo' eal]; simp
          go_wp2
          go_ret
          exact ⟨ret_bool HF.out.symm, HB2.out⟩
        cases eau : decide (p.f 13 ≤ 511)
        · have HF : Hid (validB p = false) := by rw [Hid, HY.out, show rg 0 511 (p.f 13) = false from rg_hi' eau]; simp
          go_wp2
          go_ret
          exact ⟨ret_bool HF.out.symm, HB2.out⟩
        have HGa : Hid (rg 0 511 (p.f 13) = true) := rg_in' eal eau
        cases ebl : decide (1 ≤ p.f 14)
        · have HF : Hid (validB p = false) := by rw [Hid, HY.out, show rg 0 511 (p.f 13) = true from HGa.out, show rg 1 512 (p.f 14) = false from rg_lo' ebl]; simp
          go_wp2
          go_ret
          exact ⟨ret_bool HF.out.symm, HB2.out⟩
        cases ebu : decide (p.f 14 ≤ 512)
        · have HF : Hid (validB p = false) := by rw [Hid, HY.out, show rg 0 511 (p.f 13) = true from HGa.out, show rg 1 512 (p.f 14) = false from rg_hi' ebu]; simp
          go_wp2
          go_ret
          exact ⟨ret_bool HF.out.symm, HB2.out⟩
        have HGb : Hid (rg 1 512 (p.f 14) = true) := rg_in' ebl ebu
        cases ecl : decide (1 ≤ p.f 24)
        · have HF : Hid (validB p = false) := by rw [Hid, HY.out, show rg 0 511 (p.f 13) = true from HGa.out, show rg 1 512 (p.f 14) = true from HGb.out, show rg 1 31 (p.f 24) = false from rg_lo' ecl]; simp
          go_wp2
          go_ret
          exact ⟨ret_bool HF.out.symm, HB2.out⟩
        cases ecu : decide (p.f 24 < 32)
        · have HF : Hid (validB p = false) := by rw [Hid, HY.out, show rg 0 511 (p.f 13) = true from HGa.out, show rg 1 512 (p.f 14) = true from HGb.out, show rg 1 31 (p.f 24) = false from (rg_dir ecl).trans ecu]; simp
          go_wp2
          go_ret
          exact ⟨ret_bool HF.out.symm, HB2.out⟩
        have HGc : Hid (rg 1 31 (p.f 24) = true) := (rg_dir ecl).trans ecu
        cases edl : decide (0 ≤ p.f 28)
        · have HF : Hid (validB p = false) := by rw [Hid, HY.out, show rg 0 511 (p.f 13) = true from HGa.out, show rg 1 512 (p.f 14) = true from HGb.out, show rg 1 31 (p.f 24) = true from HGc.out, show rg 0 50 (p.f 28) = false from rg_lo' edl]; simp
          go_wp2
          go_ret
          exact ⟨ret_bool HF.out.symm, HB2.out⟩
        have HF : Hid (validB p = decide (p.f 28 ≤ 50)) := by rw [Hid, HY.out, show rg 0 511 (p.f 13) = true from HGa.out, show rg 1 512 (p.f 14) = true from HGb.out, show rg 1 31 (p.f 24) = true from HGc.out, rg_last edl]; simp
        go_wp2
        go_ret
        exact ⟨ret_bool HF.out.symm, HB2.out⟩
end Go.Proofs.Ytnnknhcdnklalaa.A
