/- The law PartsTables: its call returns true. No condition. -/
import Derived.Test.YtmlhdepemeodkaaTabP
import Derived.Test.YtmlhdepemeodkaaTabE
namespace Go.Proofs.Ytmlhdepemeodkaa.A
open Go Go.RowKit
set_option linter.unusedSimpArgs false
set_option linter.unusedVariables false
/-- Block b holds an extent. -/
def EB (w : World) (b : Nat) (s c : Int) : Prop := w.heap[b]? = some (.cells #[.int .i64 s, .int .i64 c] 29 (0, 0))
theorem EB.lt {w : World} {b : Nat} {s c : Int} (h : EB w b s c) : b < w.heap.size := by unfold EB at h; exact (Array.getElem?_eq_some_iff.1 h).1
theorem EB.below {w w' : World} {b B : Nat} {s c : Int} (h : EB w b s c) (hb : Below B w w') (hlt : b < B) : EB w' b s c := by unfold EB at *; rw [hb.block b hlt]; exact h
theorem EB.s {w : World} {b : Nat} {s c : Int} (h : EB w b s c) : w.cell? ⟨b, 0, none⟩ = some (.int .i64 s) := by rw [cell_of_row _ _ _ _ _ _ h]; rfl
theorem EB.c {w : World} {b : Nat} {s c : Int} (h : EB w b s c) : w.cell? ⟨b, 1, none⟩ = some (.int .i64 c) := by rw [cell_of_row _ _ _ _ _ _ h]; rfl
open Classical in
set_option maxHeartbeats 16000000 in
set_option maxRecDepth 100000 in
theorem tables_v (u : Ar) (s c : Int) (w : World) : Calls Try.prog 3 #[.agg (arr 67 0 u), .agg #[.int .i64 s, .int .i64 c]] w fun e w' => e = .returned (.bool true) ∧ Below w.heap.size w w' := by
  have hk0 := (Blk.new w 67 0 27 u).alloc (.cells #[.int .i64 s, .int .i64 c] 29)
  have hE0 : EB ((w.alloc (.cells (arr 67 0 u) 27)).alloc (.cells #[.int .i64 s, .int .i64 c] 29)) (w.heap.size + 1) s c := by
    have := heap_alloc_new (w.alloc (.cells (arr 67 0 u) 27)) (.cells #[.int .i64 s, .int .i64 c] 29)
    rw [size1] at this; exact this
  have HB0 := hidI ((Below.alloc (Below.refl w.heap.size w) (Nat.le_refl _) (.cells (arr 67 0 u) 27)).alloc (by rw [size1]; omega) (.cells #[.int .i64 s, .int .i64 c] 29))
  have hrr := fun W => rright_v u W
  by_cases hR : RU u
  rotate_left
  · rw [decide_eq_false hR] at hrr
    clear hR
    go_enter Try.func3, Try.ntmps3
    go_wp2_with (first
    | ((with_reducible refine g_load 27 ?_ rfl); have _t := HB0; refine st_load27 (by rfl) rfl rfl hk0 (by omega) (by omega) ?_; rw [sh_zero])
    | (go_at_call 5; refine (hrr _).mono ?_; rintro e w1 ⟨rfl, hb⟩; have hk1 := hk0.below hb hk0.lt; have hE1 := hE0.below hb hE0.lt; have ds := hE1.s; have dc := hE1.c; have HB1 := hidI (HB0.out.trans (hb.mono HB0.out.size)); clear HB0 hb hk0 hE0))
    go_ret
    exact ⟨rfl, HB1.out⟩
  rw [decide_eq_true hR] at hrr
  have HR := hidI hR; clear hR
  by_cases b0 : s < 0
  · go_enter Try.func3, Try.ntmps3
    go_wp2_with (first
    | ((with_reducible refine g_load 27 ?_ rfl); have _t := HB0; refine st_load27 (by rfl) rfl rfl hk0 (by omega) (by omega) ?_; rw [sh_zero])
    | (go_at_call 5; refine (hrr _).mono ?_; rintro e w1 ⟨rfl, hb⟩; have hk1 := hk0.below hb hk0.lt; have hE1 := hE0.below hb hE0.lt; have ds := hE1.s; have dc := hE1.c; have HB1 := hidI (HB0.out.trans (hb.mono HB0.out.size)); clear HB0 hb hk0 hE0))
    go_ret
    exact ⟨rfl, HB1.out⟩
  by_cases b1 : 4096 < s
  · go_enter Try.func3, Try.ntmps3
    go_wp2_with (first
    | ((with_reducible refine g_load 27 ?_ rfl); have _t := HB0; refine st_load27 (by rfl) rfl rfl hk0 (by omega) (by omega) ?_; rw [sh_zero])
    | (go_at_call 5; refine (hrr _).mono ?_; rintro e w1 ⟨rfl, hb⟩; have hk1 := hk0.below hb hk0.lt; have hE1 := hE0.below hb hE0.lt; have ds := hE1.s; have dc := hE1.c; have HB1 := hidI (HB0.out.trans (hb.mono HB0.out.size)); clear HB0 hb hk0 hE0))
    go_ret
    exact ⟨rfl, HB1.out⟩
  by_cases b2 : c < 0
  · go_enter Try.func3, Try.ntmps3
    go_wp2_with (first
    | ((with_reducible refine g_load 27 ?_ rfl); have _t := HB0; refine st_load27 (by rfl) rfl rfl hk0 (by omega) (by omega) ?_; rw [sh_zero])
    | (go_at_call 5; refine (hrr _).mono ?_; rintro e w1 ⟨rfl, hb⟩; have hk1 := hk0.below hb hk0.lt; have hE1 := hE0.below hb hE0.lt; have ds := hE1.s; have dc := hE1.c; have HB1 := hidI (HB0.out.trans (hb.mono HB0.out.size)); clear HB0 hb hk0 hE0))
    go_ret
    exact ⟨rfl, HB1.out⟩
  by_cases b3 : 4096 < c
  · go_enter Try.func3, Try.ntmps3
    go_wp2_with (first
    | ((with_reducible refine g_load 27 ?_ rfl); have _t := HB0; refine st_load27 (by rfl) rfl rfl hk0 (by omega) (by omega) ?_; rw [sh_zero])
    | (go_at_call 5; refine (hrr _).mono ?_; rintro e w1 ⟨rfl, hb⟩; have hk1 := hk0.below hb hk0.lt; have hE1 := hE0.below hb hE0.lt; have ds := hE1.s; have dc := hE1.c; have HB1 := hidI (HB0.out.trans (hb.mono HB0.out.size)); clear HB0 hb hk0 hE0))
    go_ret
    exact ⟨rfl, HB1.out⟩
  have HS := hidI (show 0 ≤ s ∧ s ≤ 4096 from ⟨by omega, by omega⟩)
  have HC := hidI (show 0 ≤ c ∧ c ≤ 4096 from ⟨by omega, by omega⟩)
  by_cases hM : mapOk s c
  rotate_left
  · have hmp := fun W => map_no u s c HS.out HC.out hM W
    clear hM
    go_enter Try.func3, Try.ntmps3
    go_wp2_with (first
    | ((with_reducible refine g_load 27 ?_ rfl); have _t := HB0; refine st_load27 (by rfl) rfl rfl hk0 (by omega) (by omega) ?_; rw [sh_zero])
    | (go_at_call 5; refine (hrr _).mono ?_; rintro e w1 ⟨rfl, hb⟩; have hk1 := hk0.below hb hk0.lt; have hE1 := hE0.below hb hE0.lt; have ds := hE1.s; have dc := hE1.c; have HB1 := hidI (HB0.out.trans (hb.mono HB0.out.size)); clear HB0 hb hk0 hE0)
    | ((with_reducible refine g_load 27 ?_ rfl); have _t := HB1; refine st_load27 (by rfl) rfl rfl hk1 (by omega) (by omega) ?_; rw [sh_zero])
    | (go_at_call 6; refine (hmp _).mono ?_; rintro e w2 ⟨rfl, hb⟩; have hk2 := hk1.below hb hk1.lt; have HB2 := hidI (HB1.out.trans (hb.mono HB1.out.size)); clear HB1 hb hk1 hE1 ds dc)
    | ((with_reducible refine g_alloc 27 ?_ rfl); have _t := HB2; refine st_alloc27 (by rfl) rfl ?_; have hx1 := Blk.new w2 67 0 27 az; have hkl := hk2.lt; have hk3 := hk2.alloc (.cells (arr 67 0 az) 27); have hs2 := HB2.out.size; have HB3 := hidI (HB2.out.alloc HB2.out.size (.cells (arr 67 0 az) 27)); clear HB2 hk2; try go_simp)
    | ((with_reducible refine g_store 27 ?_ rfl); have _t := HB3; refine st_store27 (by rfl) rfl rfl rfl hx1 (by omega) (by omega) ?_; intro w3 hx3' hu; have hx3 := hx3'.whole; have hk4 := hk3.upd hu (by omega); have HB4 := hidI (HB3.out.trans (hu.below (by omega))); clear HB3 hk3 hx1 hu hx3'))
    go_ret
    exact ⟨rfl, HB4.out⟩
  have hmp := fun W => map_yes u s c HS.out HC.out hM W
  have hmr := fun W => mright_v (mapU u s c) (mapU_right HR.out HS.out HC.out hM) W
  have HPG := hidI (fun k hk => mapU_pg (u := u) HS.out HC.out hM k hk)
  have HX0 := hidI (mapU_x0 u s c)
  clear hM
  generalize mapU u s c = X at *
  have hbn : (u.x 0 != u.x 0) = false := by simp
  go_enter Try.func3, Try.ntmps3
  go_wp2_with (first
    | ((with_reducible refine g_load 27 ?_ rfl); have _t := HB0; refine st_load27 (by rfl) rfl rfl hk0 (by omega) (by omega) ?_; rw [sh_zero])
    | (go_at_call 5; refine (hrr _).mono ?_; rintro e w1 ⟨rfl, hb⟩; have hk1 := hk0.below hb hk0.lt; have hE1 := hE0.below hb hE0.lt; have ds := hE1.s; have dc := hE1.c; have HB1 := hidI (HB0.out.trans (hb.mono HB0.out.size)); clear HB0 hb hk0 hE0)
    | ((with_reducible refine g_load 27 ?_ rfl); have _t := HB1; refine st_load27 (by rfl) rfl rfl hk1 (by omega) (by omega) ?_; rw [sh_zero])
    | (go_at_call 6; refine (hmp _).mono ?_; rintro e w2 ⟨rfl, hb⟩; have hk2 := hk1.below hb hk1.lt; have HB2 := hidI (HB1.out.trans (hb.mono HB1.out.size)); clear HB1 hb hk1 hE1 ds dc)
    | ((with_reducible refine g_alloc 27 ?_ rfl); have _t := HB2; refine st_alloc27 (by rfl) rfl ?_; have hx1 := Blk.new w2 67 0 27 az; have hkl := hk2.lt; have hk3 := hk2.alloc (.cells (arr 67 0 az) 27); have hs2 := HB2.out.size; have HB3 := hidI (HB2.out.alloc HB2.out.size (.cells (arr 67 0 az) 27)); clear HB2 hk2; try go_simp)
    | ((with_reducible refine g_store 27 ?_ rfl); have _t := HB3; refine st_store27 (by rfl) rfl rfl rfl hx1 (by omega) (by omega) ?_; intro w3 hx3' hu; have hx3 := hx3'.whole; have hk4 := hk3.upd hu (by omega); have HB4 := hidI (HB3.out.trans (hu.below (by omega))); clear HB3 hk3 hx1 hu hx3')
    | ((with_reducible refine g_load 27 ?_ rfl); have _t := HB4; refine st_load27 (by rfl) rfl rfl hx3 (by omega) (by omega) ?_; rw [sh_zero])
    | (go_at_call 7; refine (hmr _).mono ?_; rintro e w5 ⟨rfl, hb⟩; have hx5 := hx3.below hb hx3.lt; have hk5 := hk4.below hb hk4.lt; have dx := hx5.bool 0 (by decide) (by decide); rw [HX0.out] at dx; have dk := hk5.bool 0 (by decide) (by decide); have HB5 := hidI (HB4.out.trans (hb.mono HB4.out.size)); clear HB4 hb hx3 hk4)
    | ((with_reducible refine g_load 27 ?_ rfl); have _t := HB5; refine st_load27 (by rfl) rfl rfl hx5 (by omega) (by omega) ?_; rw [sh_zero])
    | (go_at_call 8; refine (reset_v _ _).mono ?_; rintro e w6 ⟨rfl, hb⟩; have hx6 := hx5.below hb hx5.lt; have HB6 := hidI (HB5.out.trans (hb.mono HB5.out.size)); clear HB5 hb hx5 hk5 dx dk)
    | ((with_reducible refine g_alloc 27 ?_ rfl); have _t := HB6; refine st_alloc27 (by rfl) rfl ?_; have hy6 := Blk.new w6 67 0 27 az; have hxl := hx6.lt; have hx7 := hx6.alloc (.cells (arr 67 0 az) 27); have hs6 := HB6.out.size; have HB7 := hidI (HB6.out.alloc HB6.out.size (.cells (arr 67 0 az) 27)); clear HB6 hx6; try go_simp)
    | ((with_reducible refine g_store 27 ?_ rfl); have _t := HB7; refine st_store27 (by rfl) rfl rfl rfl hy6 (by omega) (by omega) ?_; intro w8 hy8' hu; have hy8 := hy8'.whole; have hx8 := hx7.upd hu (by omega); have HB8 := hidI (HB7.out.trans (hu.below (by omega))); clear HB7 hx7 hy6 hu hy8'))
  have hs2' := hs2
  generalize w2.heap.size = xb at *
  generalize w6.heap.size = yb at *
  go_loopw [8] (fun x wr => ∃ (k : Nat) (y : Ar), k ≤ 8 ∧ x = .int .i64 k ∧ Blk wr xb 67 0 27 X ∧ Blk wr yb 67 0 27 y ∧ Hid (Same X y k) ∧ Below w.heap.size w wr) (fun x _ => 8 - (intOf x).toNat)
  case atStart => exact ⟨0, az, by omega, rfl, hx8, hy8, fun i hi => by omega, HB8.out⟩
  case round =>
    clear hx8 hy8 HB8
    obtain ⟨k, y, hk, rfl, hx0, hy0, HSm, hbel⟩ := hrel
    have HA := hidI hbel; clear hbel
    have hxb := hx0.lt
    have hyb := hy0.lt
    by_cases hk8 : k < 8
    · have hlt : (k : Int) < 8 := by omega
      have hkp : (0 : Int) ≤ k := by omega
      obtain ⟨⟨p0, p1, p2⟩, px⟩ := HPG.out k hk8
      obtain ⟨q1, q2⟩ := dw_ok (g := sh X (33 + k * 4)) p1 p2
      have cr1 := fun W => read_b X (48 + 4 * (k : Int)) k hk8 rfl W
      have cr2 := fun W => read_d X (48 + 4 * (k : Int) + 2) k hk8 (by omega) px W
      have cw1 := fun W => write_b y (48 + 4 * (k : Int)) _ k hk8 rfl (and4095 _ p0) W
      have cw2 := fun W => write_d (sf y (33 + k * 4) (X.f (33 + k * 4))) (48 + 4 * (k : Int) + 2) (dw (sh X (33 + k * 4))) _ _ k hk8 (by omega) q1 p1.2 q2 p2.2 W
      have HN := hidI (same_step HSm.out px)
      obtain ⟨bv, hbv⟩ : ∃ bv, (sh X (33 + k * 4)).f 0 = bv := ⟨_, rfl⟩
      have hbv' : X.f (33 + k * 4) = bv := hbv
      rw [hbv] at cr1; rw [hbv'] at cw1 cw2 HN
      generalize dw (sh X (33 + k * 4)) = dv at *
      have HN2 : Hid (Same X (sx (sf (sf (sf y (33 + k * 4) bv) (33 + k * 4 + 1) ((sh X (33 + k * 4)).f 1)) (33 + k * 4 + 2) ((sh X (33 + k * 4)).f 2)) (33 + k * 4 + 3) false) (k + 1)) := HN.out
      generalize sx (sf (sf (sf y (33 + k * 4) bv) (33 + k * 4 + 1) ((sh X (33 + k * 4)).f 1)) (33 + k * 4 + 2) ((sh X (33 + k * 4)).f 2)) (33 + k * 4 + 3) false = y2 at *
      generalize sf y (33 + k * 4) bv = y1 at *
      clear p0 p1 p2 px q1 q2 hbv hbv' HN HSm
      go_wp2_with (first
        | ((with_reducible refine g_load 27 ?_ rfl); have _t := HA; refine st_load27 (by rfl) rfl rfl hx0 (by omega) (by omega) ?_; rw [sh_zero])
        | (go_at_call 9; have _t := HA; refine (cr1 _).mono ?_; rintro e w1 ⟨rfl, hb⟩; have hx1 := hx0.below hb hx0.lt; have hy1 := hy0.below hb hy0.lt; have HA1 := hidI (HA.out.trans (hb.mono HA.out.size)); clear HA hb hx0 hy0 cr1)
        | ((with_reducible refine g_load 27 ?_ rfl); have _t := HA1; refine st_load27 (by rfl) rfl rfl hx1 (by omega) (by omega) ?_; rw [sh_zero])
        | (go_at_call 9; have _t := HA1; refine (cr2 _).mono ?_; rintro e w2 ⟨rfl, hb⟩; have hx2 := hx1.below hb hx1.lt; have hy2 := hy1.below hb hy1.lt; have HA2 := hidI (HA1.out.trans (hb.mono HA1.out.size)); clear HA1 hb hx1 hy1 cr2)
        | ((with_reducible refine g_load 27 ?_ rfl); have _t := HA2; refine st_load27 (by rfl) rfl rfl hy2 (by omega) (by omega) ?_; rw [sh_zero])
        | (go_at_call 10; have _t := HA2; refine (cw1 _).mono ?_; rintro e w3 ⟨rfl, hb⟩; have hx3 := hx2.below hb hx2.lt; have hy3 := hy2.below hb hy2.lt; have HA3 := hidI (HA2.out.trans (hb.mono HA2.out.size)); clear HA2 hb hx2 hy2 cw1)
        | ((with_reducible refine g_store 27 ?_ rfl); have _t := HA3; refine st_store27 (by rfl) rfl rfl rfl hy3 (by omega) (by omega) ?_; intro w4 hy4' hu; have hy4 := hy4'.whole; have hx4 := hx3.upd hu (by omega); have HA4 := hidI (HA3.out.trans (hu.below (by omega))); clear HA3 hx3 hy3 hu hy4')
        | ((with_reducible refine g_load 27 ?_ rfl); have _t := HA4; refine st_load27 (by rfl) rfl rfl hy4 (by omega) (by omega) ?_; rw [sh_zero])
        | (go_at_call 10; have _t := HA4; refine (cw2 _).mono ?_; rintro e w5 ⟨rfl, hb⟩; have hx5 := hx4.below hb hx4.lt; have hy5 := hy4.below hb hy4.lt; have HA5 := hidI (HA4.out.trans (hb.mono HA4.out.size)); clear HA4 hb hx4 hy4 cw2)
        | ((with_reducible refine g_store 27 ?_ rfl); have _t := HA5; refine st_store27 (by rfl) rfl rfl rfl hy5 (by omega) (by omega) ?_; intro w6 hy6' hu; have hy6 := hy6'.whole; have hx6 := hx5.upd hu (by omega); have HA6 := hidI (HA5.out.trans (hu.below (by omega))); clear HA5 hx5 hy5 hu hy6'))
      go_roundw
      case measure => simp [intOf]; omega
      case rel => exact ⟨k + 1, y2, by omega, by go_num, hx6, hy6, HN2, HA6.out⟩
    · obtain rfl : k = 8 := by omega
      rw [show ((8 : Nat) : Int) = 8 from rfl]
      have HE := hidI (same_all HSm.out)
      go_wp2_with (first
        | ((with_reducible refine g_load 24 ?_ rfl); refine st_load24 (off := 33) (by rfl) rfl rfl hy0 (by omega) (by omega) ?_; rw [HE.out])
        | ((with_reducible refine g_load 24 ?_ rfl); refine st_load24 (off := 33) (by rfl) rfl rfl hx0 (by omega) (by omega) ?_)
        | ((with_reducible refine g_eql24 ?_ rfl); refine st_eql24 (by rfl) rfl rfl rfl ?_))
      go_ret
      exact ⟨rfl, HA.out⟩
end Go.Proofs.Ytmlhdepemeodkaa.A
