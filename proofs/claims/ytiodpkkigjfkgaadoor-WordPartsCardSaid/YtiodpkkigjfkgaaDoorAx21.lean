-- Written by a program of this session (mp.py) over the kit's print.py, with proofs by hand for what the print does not take.
import Derived.Test.YtiodpkkigjfkgaaDoorAx0
import Derived.Test.YtiodpkkigjfkgaaDoorAx2
import Derived.Test.YtiodpkkigjfkgaaDoorAx5
import Derived.Test.YtiodpkkigjfkgaaDoorAx11
import Derived.Test.YtiodpkkigjfkgaaDoorAx20
namespace Go.Proofs.YtiodpkkigjfkgaaDoor.A
open Go.RowKit Go.Proofs.YtiodpkkigjfkgaaDoorW.PrintWords Go.Proofs.YtiodpkkigjfkgaaDoorW.PrintLast Go.Proofs.YtiodpkkigjfkgaaDoorW.PrintMore
attribute [local go_sem] max2_int min2_int max_two min_two max_three min_three max_four min_four   -- for this text's walks alone
set_option linter.unusedVariables false
set_option linter.unusedSimpArgs false

/-! ### emulatorlaw01_WordUndo: function 7 -/
mutual
def emulatorlaw01_WordUndo.j0 : Nat → Int → Int → Int → Int → Bool → Option (Bool)
  | 0, _, _, _, _, _ => none
  | k + 1, x3, x246000, x246001, x246002, x246003 => (word_Add.f x246000 x246001 x246002 x246003).bind fun bt246 => ((word_Sub.f bt246.1 x246001 x246002 x246003).bind fun bt248 => ((word_Sub.f x246000 x246001 x246002 x246003).bind fun bt250 => (if bt248.1 = (Go.bits .and .i64 x246000 x3) then (if bt246.1 = (Go.bits .and .i64 (wrap64 ((wrap64 ((Go.bits .and .i64 x246000 x3) + (Go.bits .and .i64 x246001 x3))) + (Go.bits .and .i64 x246002 1))) x3) then (emulatorlaw01_WordUndo.j1 k x3 bt246.2 bt250.2 (bt250.1 != (Go.bits .and .i64 (wrap64 ((wrap64 ((Go.bits .and .i64 x246000 x3) - (Go.bits .and .i64 x246001 x3))) - (Go.bits .and .i64 x246002 1))) x3)) x246000 x246001 x246002 x246003) else (emulatorlaw01_WordUndo.j1 k x3 bt246.2 bt250.2 true x246000 x246001 x246002 x246003)) else (emulatorlaw01_WordUndo.j1 k x3 bt246.2 bt250.2 true x246000 x246001 x246002 x246003))))
def emulatorlaw01_WordUndo.j1 : Nat → Int → Int → Int → Bool → Int → Int → Int → Bool → Option (Bool)
  | 0, _, _, _, _, _, _, _, _ => none
  | k + 1, x3, x5, x9, x92, x246000, x246001, x246002, x246003 => if x92 = true then (some false) else ((emulatorlaw01_signed.f (Go.bits .and .i64 x246000 x3) x246003).bind fun t252 => ((emulatorlaw01_signed.f (Go.bits .and .i64 x246001 x3) x246003).bind fun t253 => ((emulatorlaw01_signed.f (Go.bits .and .i64 x246000 x3) x246003).bind fun t254 => ((emulatorlaw01_signed.f (Go.bits .and .i64 x246001 x3) x246003).bind fun t255 => ((emulatorlaw01_signed.f (wrap64 ((wrap64 (t252 + t253)) + (Go.bits .and .i64 x246002 1))) x246003).bind fun t256 => (if (((Go.bits .and .i64 x5 2) != 0) != ((wrap64 ((wrap64 (t252 + t253)) + (Go.bits .and .i64 x246002 1))) != t256)) = true then (some false) else ((emulatorlaw01_signed.f (wrap64 ((wrap64 (t254 - t255)) - (Go.bits .and .i64 x246002 1))) x246003).bind fun t257 => (if (((Go.bits .and .i64 x9 2) != 0) != ((wrap64 ((wrap64 (t254 - t255)) - (Go.bits .and .i64 x246002 1))) != t257)) = true then (some false) else (if (((Go.bits .and .i64 x5 1) != 0) == (decide ((wrap64 ((wrap64 ((Go.bits .and .i64 x246000 x3) + (Go.bits .and .i64 x246001 x3))) + (Go.bits .and .i64 x246002 1))) > x3))) = true then (if (((Go.bits .and .i64 x9 1) != 0) == (decide ((wrap64 ((wrap64 ((Go.bits .and .i64 x246000 x3) - (Go.bits .and .i64 x246001 x3))) - (Go.bits .and .i64 x246002 1))) < 0))) = true then ((emulatorlaw01_alive.f k).bind fun t258 => (some t258)) else (some false)) else (some false))))))))))
end
def emulatorlaw01_WordUndo.f (k : Nat) (a0_0 : Int) (a0_1 : Int) (a0_2 : Int) (a0_3 : Bool) : Option (Bool) := if a0_3 = true then (emulatorlaw01_WordUndo.j0 k 255 a0_0 a0_1 a0_2 a0_3) else (emulatorlaw01_WordUndo.j0 k 65535 a0_0 a0_1 a0_2 a0_3)
theorem emulatorlaw01_WordUndo.mono_l : ∀ k, (∀ y0 y1 y2 y3 y4, LeO (emulatorlaw01_WordUndo.j0 k y0 y1 y2 y3 y4) (emulatorlaw01_WordUndo.j0 (k + 1) y0 y1 y2 y3 y4)) ∧ (∀ y0 y1 y2 y3 y4 y5 y6 y7, LeO (emulatorlaw01_WordUndo.j1 k y0 y1 y2 y3 y4 y5 y6 y7) (emulatorlaw01_WordUndo.j1 (k + 1) y0 y1 y2 y3 y4 y5 y6 y7))
  | 0 => ⟨fun _ _ _ _ _ r h => by simp [emulatorlaw01_WordUndo.j0] at h, fun _ _ _ _ _ _ _ _ r h => by simp [emulatorlaw01_WordUndo.j1] at h⟩
  | k + 1 => by
    obtain ⟨ih0, ih1⟩ := emulatorlaw01_WordUndo.mono_l k
    refine ⟨?_, ?_⟩
    · intro y0 y1 y2 y3 y4
      unfold emulatorlaw01_WordUndo.j0
      repeat' first
      | (with_reducible exact ih0 _ _ _ _ _)
      | (with_reducible exact ih1 _ _ _ _ _ _ _ _)
      | (with_reducible exact emulatorlaw01_alive.mono _)
      | (with_reducible exact LeO.refl _)
      | (with_reducible exact LeO.none _)
      | (with_reducible refine LeO.ite ?_ ?_)
      | (with_reducible refine LeO.bind ?_ (fun _ => ?_))
      | exact ih0 _ _ _ _ _
      | exact ih1 _ _ _ _ _ _ _ _
      | exact emulatorlaw01_alive.mono _
      | exact LeO.none _
      | refine LeO.ite ?_ ?_
      | refine LeO.bind ?_ (fun _ => ?_)
    · intro y0 y1 y2 y3 y4 y5 y6 y7
      unfold emulatorlaw01_WordUndo.j1
      repeat' first
      | (with_reducible exact ih0 _ _ _ _ _)
      | (with_reducible exact ih1 _ _ _ _ _ _ _ _)
      | (with_reducible exact emulatorlaw01_alive.mono _)
      | (with_reducible exact LeO.refl _)
      | (with_reducible exact LeO.none _)
      | (with_reducible refine LeO.ite ?_ ?_)
      | (with_reducible refine LeO.bind ?_ (fun _ => ?_))
      | exact ih0 _ _ _ _ _
      | exact ih1 _ _ _ _ _ _ _ _
      | exact emulatorlaw01_alive.mono _
      | exact LeO.none _
      | refine LeO.ite ?_ ?_
      | refine LeO.bind ?_ (fun _ => ?_)
theorem emulatorlaw01_WordUndo.mono : ∀ a0 a1 a2 a3 k, LeO (emulatorlaw01_WordUndo.f k a0 a1 a2 a3) (emulatorlaw01_WordUndo.f (k + 1) a0 a1 a2 a3) := by
  intro a0 a1 a2 a3 k
  obtain ⟨ih0, ih1⟩ := emulatorlaw01_WordUndo.mono_l k
  unfold emulatorlaw01_WordUndo.f
  repeat' first
      | (with_reducible exact ih0 _ _ _ _ _)
      | (with_reducible exact ih1 _ _ _ _ _ _ _ _)
      | (with_reducible exact emulatorlaw01_alive.mono _)
      | (with_reducible exact LeO.refl _)
      | (with_reducible exact LeO.none _)
      | (with_reducible refine LeO.ite ?_ ?_)
      | (with_reducible refine LeO.bind ?_ (fun _ => ?_))
      | exact ih0 _ _ _ _ _
      | exact ih1 _ _ _ _ _ _ _ _
      | exact emulatorlaw01_alive.mono _
      | exact LeO.none _
      | refine LeO.ite ?_ ?_
      | refine LeO.bind ?_ (fun _ => ?_)
set_option maxHeartbeats 8000000 in
set_option maxRecDepth 100000 in
theorem emulatorlaw01_WordUndo.calls (k : Nat) (a0_0 : Int) (a0_1 : Int) (a0_2 : Int) (a0_3 : Bool) (r : Bool) (w : World) (hS : Sz w) (h : emulatorlaw01_WordUndo.f k a0_0 a0_1 a0_2 a0_3 = some r) (hr0 : r = true) :
    Calls Tryd.prog 7 #[.agg #[.int .i64 a0_0, .int .i64 a0_1, .int .i64 a0_2, .bool a0_3]] w fun e w' => e = .returned (.bool r) ∧ Below w.heap.size w w' := by
  have hu23 := Tryd.underlying23
  have hr_ := Aside0.mk hr0
  clear hr0
  have HB := Aside0.mk (Below.refl w.heap.size w)
  have H : (if a0_3 = true then (emulatorlaw01_WordUndo.j0 k 255 a0_0 a0_1 a0_2 a0_3) else (emulatorlaw01_WordUndo.j0 k 65535 a0_0 a0_1 a0_2 a0_3)) = some r := h
  clear h
  have HC2 := Aside0.mk H
  clear H
  go_enter Tryd.func7, Tryd.ntmps7
  go_upto_if 13 with (first | ((with_reducible refine gate_dst (N := 1) rfl ?_); refine box_event ?hg (N := 1) ?hd (cs := #[.int .i64 a0_0, .int .i64 a0_1, .int .i64 a0_2, .bool a0_3]) (t := 23) ?hr ?_; (case hd => rfl); (case hg => rfl); (case hr => first | (go_simp; done) | (go_simp; rfl)); intro gb245 hg w3 hbox hb; have n0_ := Aside0.mk (below_step (by repeat (first | (with_reducible first | exact HB.out | apply below_alloc | apply pw_below_drewN | apply below_drew1) | exact HB.out)) hb); have n1_ := Aside0.mk (hbox); have n2_ := Aside0.mk ((by rw [hg]; exact (below_size (by repeat (first | (with_reducible first | exact HB.out | apply below_alloc | apply pw_below_drewN | apply below_drew1) | exact HB.out))) : w.heap.size ≤ gb245)); have n3_ := Aside0.mk ((by rw [hg]; exact (below_size (by repeat (first | (with_reducible first | exact HB.out | apply below_alloc | apply pw_below_drewN | apply below_drew1) | exact HB.out))) : w.heap.size ≤ gb245)); clear HB; have HB := n0_; have BK245 := n1_; have GW245 := n2_; have GE245 := n3_; clear n0_ n1_ n2_ n3_; clear hb hbox hg; have hcz4_0 : w3.cell? ⟨gb245, 0, none⟩ = some (.int .i64 a0_0) := (blk_cell BK245.out 0).trans rfl; have hcz4_1 : w3.cell? ⟨gb245, 1, none⟩ = some (.int .i64 a0_1) := (blk_cell BK245.out 1).trans rfl; have hcz4_2 : w3.cell? ⟨gb245, 2, none⟩ = some (.int .i64 a0_2) := (blk_cell BK245.out 2).trans rfl; have hcz4_3 : w3.cell? ⟨gb245, 3, none⟩ = some (.bool a0_3) := (blk_cell BK245.out 3).trans rfl; have hfz4_0 := blk_frozen BK245.out 0; have hfz4_1 := blk_frozen BK245.out 1; have hfz4_2 := blk_frozen BK245.out 2; have hfz4_3 := blk_frozen BK245.out 3))
  repeat (go_quiet (first | ((with_reducible refine gate_dst (N := 1) rfl ?_); refine box_event ?hg (N := 1) ?hd (cs := #[.int .i64 a0_0, .int .i64 a0_1, .int .i64 a0_2, .bool a0_3]) (t := 23) ?hr ?_; (case hd => rfl); (case hg => rfl); (case hr => first | (go_simp; done) | (go_simp; rfl)); intro gb245 hg w3 hbox hb; have n0_ := Aside0.mk (below_step (by repeat (first | (with_reducible first | exact HB.out | apply below_alloc | apply pw_below_drewN | apply below_drew1) | exact HB.out)) hb); have n1_ := Aside0.mk (hbox); have n2_ := Aside0.mk ((by rw [hg]; exact (below_size (by repeat (first | (with_reducible first | exact HB.out | apply below_alloc | apply pw_below_drewN | apply below_drew1) | exact HB.out))) : w.heap.size ≤ gb245)); have n3_ := Aside0.mk ((by rw [hg]; exact (below_size (by repeat (first | (with_reducible first | exact HB.out | apply below_alloc | apply pw_below_drewN | apply below_drew1) | exact HB.out))) : w.heap.size ≤ gb245)); clear HB; have HB := n0_; have BK245 := n1_; have GW245 := n2_; have GE245 := n3_; clear n0_ n1_ n2_ n3_; clear hb hbox hg; have hcz4_0 : w3.cell? ⟨gb245, 0, none⟩ = some (.int .i64 a0_0) := (blk_cell BK245.out 0).trans rfl; have hcz4_1 : w3.cell? ⟨gb245, 1, none⟩ = some (.int .i64 a0_1) := (blk_cell BK245.out 1).trans rfl; have hcz4_2 : w3.cell? ⟨gb245, 2, none⟩ = some (.int .i64 a0_2) := (blk_cell BK245.out 2).trans rfl; have hcz4_3 : w3.cell? ⟨gb245, 3, none⟩ = some (.bool a0_3) := (blk_cell BK245.out 3).trans rfl; have hfz4_0 := blk_frozen BK245.out 0; have hfz4_1 := blk_frozen BK245.out 1; have hfz4_2 := blk_frozen BK245.out 2; have hfz4_3 := blk_frozen BK245.out 3)); go_upto_if 13 with (first | ((with_reducible refine gate_dst (N := 1) rfl ?_); refine box_event ?hg (N := 1) ?hd (cs := #[.int .i64 a0_0, .int .i64 a0_1, .int .i64 a0_2, .bool a0_3]) (t := 23) ?hr ?_; (case hd => rfl); (case hg => rfl); (case hr => first | (go_simp; done) | (go_simp; rfl)); intro gb245 hg w3 hbox hb; have n0_ := Aside0.mk (below_step (by repeat (first | (with_reducible first | exact HB.out | apply below_alloc | apply pw_below_drewN | apply below_drew1) | exact HB.out)) hb); have n1_ := Aside0.mk (hbox); have n2_ := Aside0.mk ((by rw [hg]; exact (below_size (by repeat (first | (with_reducible first | exact HB.out | apply below_alloc | apply pw_below_drewN | apply below_drew1) | exact HB.out))) : w.heap.size ≤ gb245)); have n3_ := Aside0.mk ((by rw [hg]; exact (below_size (by repeat (first | (with_reducible first | exact HB.out | apply below_alloc | apply pw_below_drewN | apply below_drew1) | exact HB.out))) : w.heap.size ≤ gb245)); clear HB; have HB := n0_; have BK245 := n1_; have GW245 := n2_; have GE245 := n3_; clear n0_ n1_ n2_ n3_; clear hb hbox hg; have hcz4_0 : w3.cell? ⟨gb245, 0, none⟩ = some (.int .i64 a0_0) := (blk_cell BK245.out 0).trans rfl; have hcz4_1 : w3.cell? ⟨gb245, 1, none⟩ = some (.int .i64 a0_1) := (blk_cell BK245.out 1).trans rfl; have hcz4_2 : w3.cell? ⟨gb245, 2, none⟩ = some (.int .i64 a0_2) := (blk_cell BK245.out 2).trans rfl; have hcz4_3 : w3.cell? ⟨gb245, 3, none⟩ = some (.bool a0_3) := (blk_cell BK245.out 3).trans rfl; have hfz4_0 := blk_frozen BK245.out 0; have hfz4_1 := blk_frozen BK245.out 1; have hfz4_2 := blk_frozen BK245.out 2; have hfz4_3 := blk_frozen BK245.out 3)))
  (try simp only [Act.put, List.setIfInBounds_toArray, List.set_cons_zero, List.set_cons_succ])
  go_cut [3] (fun v3 wc => ∃ (kq : Nat) (x3_1 : Int), v3 = .int .i64 x3_1 ∧ Aside0 (emulatorlaw01_WordUndo.j0 kq x3_1 a0_0 a0_1 a0_2 a0_3 = some r) ∧ Aside0 (kq ≤ k) ∧ Aside0 (wc.heap[gb245]? = some (.cells #[.int .i64 a0_0, .int .i64 a0_1, .int .i64 a0_2, .bool a0_3] 23 (0, 0))) ∧ Aside0 (Below w.heap.size w wc))
  case first =>
    have H := HC2.out
    clear HC2
    by_cases c5 : a0_3 = true
    · subst c5
      have H1 : (emulatorlaw01_WordUndo.j0 k 255 a0_0 a0_1 a0_2 true) = some r := by rw [if_pos rfl] at H; exact H
      clear H
      have H := H1
      clear H1
      have H' := Aside0.mk H
      clear H
      go_wp2
      repeat (go_quiet (fail); try go_wp2)
      go_meet
      case rel => exact ⟨_, (255), (by first | rfl | (simp; done) | (simp [*]; done)), H', ⟨by first | omega | exact Nat.le_refl _⟩, ⟨by (with_reducible repeat (first | refine blk_drewN ?_ _ | refine blk_drew ?_ | refine blk_alloc ?_ _)); exact BK245.out⟩, ⟨by repeat (first | (with_reducible first | exact HB.out | apply below_alloc | apply pw_below_drewN | apply below_drew1 | refine below_set ?_ GE245.out) | exact HB.out)⟩⟩
    · replace c5 := Bool.eq_false_iff.mpr c5
      subst c5
      have H1 : (emulatorlaw01_WordUndo.j0 k 65535 a0_0 a0_1 a0_2 false) = some r := by rw [if_neg (show ¬ (false = true) by decide)] at H; exact H
      clear H
      have H := H1
      clear H1
      have H' := Aside0.mk H
      clear H
      go_wp2
      repeat (go_quiet (fail); try go_wp2)
      go_meet
      case rel => exact ⟨_, (65535), (by first | rfl | (simp; done) | (simp [*]; done)), H', ⟨by first | omega | exact Nat.le_refl _⟩, ⟨by (with_reducible repeat (first | refine blk_drewN ?_ _ | refine blk_drew ?_ | refine blk_alloc ?_ _)); exact BK245.out⟩, ⟨by repeat (first | (with_reducible first | exact HB.out | apply below_alloc | apply pw_below_drewN | apply below_drew1 | refine below_set ?_ GE245.out) | exact HB.out)⟩⟩
  case rest =>
    clear HC2
    try clear p2
    try clear c5
    try clear hcz4_0
    try clear hcz4_1
    try clear hcz4_2
    try clear hcz4_3
    try clear hfz4_0
    try clear hfz4_1
    try clear hfz4_2
    try clear hfz4_3
    obtain ⟨kq, x3_1, rfl, HA, HJ1, BK245, HB⟩ := hcut
    cases kq with
    | zero => exact absurd HA.out (by simp [emulatorlaw01_WordUndo.j0])
    | succ kj1 =>
      have H := HA.out
      clear HA
      simp only [emulatorlaw01_WordUndo.j0] at H
      replace H := Option.bind_eq_some_iff.mp H
      obtain ⟨⟨t246, t247⟩, A60, H⟩ := H
      replace H : ((word_Sub.f t246 a0_1 a0_2 a0_3).bind fun bt248 => ((word_Sub.f a0_0 a0_1 a0_2 a0_3).bind fun bt250 => (if bt248.1 = (Go.bits .and .i64 a0_0 x3_1) then (if t246 = (Go.bits .and .i64 (wrap64 ((wrap64 ((Go.bits .and .i64 a0_0 x3_1) + (Go.bits .and .i64 a0_1 x3_1))) + (Go.bits .and .i64 a0_2 1))) x3_1) then (emulatorlaw01_WordUndo.j1 kj1 x3_1 t247 bt250.2 (bt250.1 != (Go.bits .and .i64 (wrap64 ((wrap64 ((Go.bits .and .i64 a0_0 x3_1) - (Go.bits .and .i64 a0_1 x3_1))) - (Go.bits .and .i64 a0_2 1))) x3_1)) a0_0 a0_1 a0_2 a0_3) else (emulatorlaw01_WordUndo.j1 kj1 x3_1 t247 bt250.2 true a0_0 a0_1 a0_2 a0_3)) else (emulatorlaw01_WordUndo.j1 kj1 x3_1 t247 bt250.2 true a0_0 a0_1 a0_2 a0_3)))) = some r := H
      have A6 := Aside0.mk A60
      clear A60
      replace H := Option.bind_eq_some_iff.mp H
      obtain ⟨⟨t248, t249⟩, A70, H⟩ := H
      replace H : ((word_Sub.f a0_0 a0_1 a0_2 a0_3).bind fun bt250 => (if t248 = (Go.bits .and .i64 a0_0 x3_1) then (if t246 = (Go.bits .and .i64 (wrap64 ((wrap64 ((Go.bits .and .i64 a0_0 x3_1) + (Go.bits .and .i64 a0_1 x3_1))) + (Go.bits .and .i64 a0_2 1))) x3_1) then (emulatorlaw01_WordUndo.j1 kj1 x3_1 t247 bt250.2 (bt250.1 != (Go.bits .and .i64 (wrap64 ((wrap64 ((Go.bits .and .i64 a0_0 x3_1) - (Go.bits .and .i64 a0_1 x3_1))) - (Go.bits .and .i64 a0_2 1))) x3_1)) a0_0 a0_1 a0_2 a0_3) else (emulatorlaw01_WordUndo.j1 kj1 x3_1 t247 bt250.2 true a0_0 a0_1 a0_2 a0_3)) else (emulatorlaw01_WordUndo.j1 kj1 x3_1 t247 bt250.2 true a0_0 a0_1 a0_2 a0_3))) = some r := H
      have A7 := Aside0.mk A70
      clear A70
      replace H := Option.bind_eq_some_iff.mp H
      obtain ⟨⟨t250, t251⟩, A80, H⟩ := H
      replace H : (if t248 = (Go.bits .and .i64 a0_0 x3_1) then (if t246 = (Go.bits .and .i64 (wrap64 ((wrap64 ((Go.bits .and .i64 a0_0 x3_1) + (Go.bits .and .i64 a0_1 x3_1))) + (Go.bits .and .i64 a0_2 1))) x3_1) then (emulatorlaw01_WordUndo.j1 kj1 x3_1 t247 t251 (t250 != (Go.bits .and .i64 (wrap64 ((wrap64 ((Go.bits .and .i64 a0_0 x3_1) - (Go.bits .and .i64 a0_1 x3_1))) - (Go.bits .and .i64 a0_2 1))) x3_1)) a0_0 a0_1 a0_2 a0_3) else (emulatorlaw01_WordUndo.j1 kj1 x3_1 t247 t251 true a0_0 a0_1 a0_2 a0_3)) else (emulatorlaw01_WordUndo.j1 kj1 x3_1 t247 t251 true a0_0 a0_1 a0_2 a0_3)) = some r := H
      have A8 := Aside0.mk A80
      clear A80
      have HC9 := Aside0.mk H
      clear H
      have hcz10_0 : wc.cell? ⟨gb245, 0, none⟩ = some (.int .i64 a0_0) := (blk_cell BK245.out 0).trans rfl
      have hcz10_1 : wc.cell? ⟨gb245, 1, none⟩ = some (.int .i64 a0_1) := (blk_cell BK245.out 1).trans rfl
      have hcz10_2 : wc.cell? ⟨gb245, 2, none⟩ = some (.int .i64 a0_2) := (blk_cell BK245.out 2).trans rfl
      have hcz10_3 : wc.cell? ⟨gb245, 3, none⟩ = some (.bool a0_3) := (blk_cell BK245.out 3).trans rfl
      have hfz10_0 := blk_frozen BK245.out 0
      have hfz10_1 := blk_frozen BK245.out 1
      have hfz10_2 := blk_frozen BK245.out 2
      have hfz10_3 := blk_frozen BK245.out 3
      go_upto_region 7 with (first | (go_at_call 11; (with_reducible refine (word_Add.calls a0_0 a0_1 a0_2 a0_3 t246 t247 _ (hS.go (by repeat (first | (with_reducible first | exact HB.out | apply below_alloc | apply pw_below_drewN | apply below_drew1 | refine below_set ?_ GE245.out) | exact HB.out))) A6.out).mono ?_); rintro e w11 ⟨rfl, hb⟩; have n0_ := Aside0.mk (blk_below (g := gb245) (o := .cells #[.int .i64 a0_0, .int .i64 a0_1, .int .i64 a0_2, .bool a0_3] 23 (0, 0)) (by (with_reducible repeat (first | refine blk_drewN ?_ _ | refine blk_drew ?_ | refine blk_alloc ?_ _)); exact BK245.out) hb); have n1_ := Aside0.mk (below_step (by repeat (first | (with_reducible first | exact HB.out | apply below_alloc | apply pw_below_drewN | apply below_drew1 | refine below_set ?_ GE245.out) | exact HB.out)) hb); clear BK245; clear HB; have BK245 := n0_; have HB := n1_; clear n0_ n1_; (try clear hb); (try clear hb2); (try clear hk); (try clear hi); have hcz12_0 : w11.cell? ⟨gb245, 0, none⟩ = some (.int .i64 a0_0) := (blk_cell BK245.out 0).trans rfl; have hcz12_1 : w11.cell? ⟨gb245, 1, none⟩ = some (.int .i64 a0_1) := (blk_cell BK245.out 1).trans rfl; have hcz12_2 : w11.cell? ⟨gb245, 2, none⟩ = some (.int .i64 a0_2) := (blk_cell BK245.out 2).trans rfl; have hcz12_3 : w11.cell? ⟨gb245, 3, none⟩ = some (.bool a0_3) := (blk_cell BK245.out 3).trans rfl; have hfz12_0 := blk_frozen BK245.out 0; have hfz12_1 := blk_frozen BK245.out 1; have hfz12_2 := blk_frozen BK245.out 2; have hfz12_3 := blk_frozen BK245.out 3) | (go_at_call 13; (with_reducible refine (word_Sub.calls t246 a0_1 a0_2 a0_3 t248 t249 _ (hS.go (by repeat (first | (with_reducible first | exact HB.out | apply below_alloc | apply pw_below_drewN | apply below_drew1 | refine below_set ?_ GE245.out) | exact HB.out))) A7.out).mono ?_); rintro e w13 ⟨rfl, hb⟩; have n0_ := Aside0.mk (blk_below (g := gb245) (o := .cells #[.int .i64 a0_0, .int .i64 a0_1, .int .i64 a0_2, .bool a0_3] 23 (0, 0)) (by (with_reducible repeat (first | refine blk_drewN ?_ _ | refine blk_drew ?_ | refine blk_alloc ?_ _)); exact BK245.out) hb); have n1_ := Aside0.mk (below_step (by repeat (first | (with_reducible first | exact HB.out | apply below_alloc | apply pw_below_drewN | apply below_drew1 | refine below_set ?_ GE245.out) | exact HB.out)) hb); clear BK245; clear HB; have BK245 := n0_; have HB := n1_; clear n0_ n1_; (try clear hb); (try clear hb2); (try clear hk); (try clear hi); have hcz14_0 : w13.cell? ⟨gb245, 0, none⟩ = some (.int .i64 a0_0) := (blk_cell BK245.out 0).trans rfl; have hcz14_1 : w13.cell? ⟨gb245, 1, none⟩ = some (.int .i64 a0_1) := (blk_cell BK245.out 1).trans rfl; have hcz14_2 : w13.cell? ⟨gb245, 2, none⟩ = some (.int .i64 a0_2) := (blk_cell BK245.out 2).trans rfl; have hcz14_3 : w13.cell? ⟨gb245, 3, none⟩ = some (.bool a0_3) := (blk_cell BK245.out 3).trans rfl; have hfz14_0 := blk_frozen BK245.out 0; have hfz14_1 := blk_frozen BK245.out 1; have hfz14_2 := blk_frozen BK245.out 2; have hfz14_3 := blk_frozen BK245.out 3) | (go_at_call 13; (with_reducible refine (word_Sub.calls a0_0 a0_1 a0_2 a0_3 t250 t251 _ (hS.go (by repeat (first | (with_reducible first | exact HB.out | apply below_alloc | apply pw_below_drewN | apply below_drew1 | refine below_set ?_ GE245.out) | exact HB.out))) A8.out).mono ?_); rintro e w15 ⟨rfl, hb⟩; have n0_ := Aside0.mk (blk_below (g := gb245) (o := .cells #[.int .i64 a0_0, .int .i64 a0_1, .int .i64 a0_2, .bool a0_3] 23 (0, 0)) (by (with_reducible repeat (first | refine blk_drewN ?_ _ | refine blk_drew ?_ | refine blk_alloc ?_ _)); exact BK245.out) hb); have n1_ := Aside0.mk (below_step (by repeat (first | (with_reducible first | exact HB.out | apply below_alloc | apply pw_below_drewN | apply below_drew1 | refine below_set ?_ GE245.out) | exact HB.out)) hb); clear BK245; clear HB; have BK245 := n0_; have HB := n1_; clear n0_ n1_; (try clear hb); (try clear hb2); (try clear hk); (try clear hi)))
      repeat (go_quiet (first | (go_at_call 11; (with_reducible refine (word_Add.calls a0_0 a0_1 a0_2 a0_3 t246 t247 _ (hS.go (by repeat (first | (with_reducible first | exact HB.out | apply below_alloc | apply pw_below_drewN | apply below_drew1 | refine below_set ?_ GE245.out) | exact HB.out))) A6.out).mono ?_); rintro e w11 ⟨rfl, hb⟩; have n0_ := Aside0.mk (blk_below (g := gb245) (o := .cells #[.int .i64 a0_0, .int .i64 a0_1, .int .i64 a0_2, .bool a0_3] 23 (0, 0)) (by (with_reducible repeat (first | refine blk_drewN ?_ _ | refine blk_drew ?_ | refine blk_alloc ?_ _)); exact BK245.out) hb); have n1_ := Aside0.mk (below_step (by repeat (first | (with_reducible first | exact HB.out | apply below_alloc | apply pw_below_drewN | apply below_drew1 | refine below_set ?_ GE245.out) | exact HB.out)) hb); clear BK245; clear HB; have BK245 := n0_; have HB := n1_; clear n0_ n1_; (try clear hb); (try clear hb2); (try clear hk); (try clear hi); have hcz12_0 : w11.cell? ⟨gb245, 0, none⟩ = some (.int .i64 a0_0) := (blk_cell BK245.out 0).trans rfl; have hcz12_1 : w11.cell? ⟨gb245, 1, none⟩ = some (.int .i64 a0_1) := (blk_cell BK245.out 1).trans rfl; have hcz12_2 : w11.cell? ⟨gb245, 2, none⟩ = some (.int .i64 a0_2) := (blk_cell BK245.out 2).trans rfl; have hcz12_3 : w11.cell? ⟨gb245, 3, none⟩ = some (.bool a0_3) := (blk_cell BK245.out 3).trans rfl; have hfz12_0 := blk_frozen BK245.out 0; have hfz12_1 := blk_frozen BK245.out 1; have hfz12_2 := blk_frozen BK245.out 2; have hfz12_3 := blk_frozen BK245.out 3) | (go_at_call 13; (with_reducible refine (word_Sub.calls t246 a0_1 a0_2 a0_3 t248 t249 _ (hS.go (by repeat (first | (with_reducible first | exact HB.out | apply below_alloc | apply pw_below_drewN | apply below_drew1 | refine below_set ?_ GE245.out) | exact HB.out))) A7.out).mono ?_); rintro e w13 ⟨rfl, hb⟩; have n0_ := Aside0.mk (blk_below (g := gb245) (o := .cells #[.int .i64 a0_0, .int .i64 a0_1, .int .i64 a0_2, .bool a0_3] 23 (0, 0)) (by (with_reducible repeat (first | refine blk_drewN ?_ _ | refine blk_drew ?_ | refine blk_alloc ?_ _)); exact BK245.out) hb); have n1_ := Aside0.mk (below_step (by repeat (first | (with_reducible first | exact HB.out | apply below_alloc | apply pw_below_drewN | apply below_drew1 | refine below_set ?_ GE245.out) | exact HB.out)) hb); clear BK245; clear HB; have BK245 := n0_; have HB := n1_; clear n0_ n1_; (try clear hb); (try clear hb2); (try clear hk); (try clear hi); have hcz14_0 : w13.cell? ⟨gb245, 0, none⟩ = some (.int .i64 a0_0) := (blk_cell BK245.out 0).trans rfl; have hcz14_1 : w13.cell? ⟨gb245, 1, none⟩ = some (.int .i64 a0_1) := (blk_cell BK245.out 1).trans rfl; have hcz14_2 : w13.cell? ⟨gb245, 2, none⟩ = some (.int .i64 a0_2) := (blk_cell BK245.out 2).trans rfl; have hcz14_3 : w13.cell? ⟨gb245, 3, none⟩ = some (.bool a0_3) := (blk_cell BK245.out 3).trans rfl; have hfz14_0 := blk_frozen BK245.out 0; have hfz14_1 := blk_frozen BK245.out 1; have hfz14_2 := blk_frozen BK245.out 2; have hfz14_3 := blk_frozen BK245.out 3) | (go_at_call 13; (with_reducible refine (word_Sub.calls a0_0 a0_1 a0_2 a0_3 t250 t251 _ (hS.go (by repeat (first | (with_reducible first | exact HB.out | apply below_alloc | apply pw_below_drewN | apply below_drew1 | refine below_set ?_ GE245.out) | exact HB.out))) A8.out).mono ?_); rintro e w15 ⟨rfl, hb⟩; have n0_ := Aside0.mk (blk_below (g := gb245) (o := .cells #[.int .i64 a0_0, .int .i64 a0_1, .int .i64 a0_2, .bool a0_3] 23 (0, 0)) (by (with_reducible repeat (first | refine blk_drewN ?_ _ | refine blk_drew ?_ | refine blk_alloc ?_ _)); exact BK245.out) hb); have n1_ := Aside0.mk (below_step (by repeat (first | (with_reducible first | exact HB.out | apply below_alloc | apply pw_below_drewN | apply below_drew1 | refine below_set ?_ GE245.out) | exact HB.out)) hb); clear BK245; clear HB; have BK245 := n0_; have HB := n1_; clear n0_ n1_; (try clear hb); (try clear hb2); (try clear hk); (try clear hi))); go_upto_region 7 with (first | (go_at_call 11; (with_reducible refine (word_Add.calls a0_0 a0_1 a0_2 a0_3 t246 t247 _ (hS.go (by repeat (first | (with_reducible first | exact HB.out | apply below_alloc | apply pw_below_drewN | apply below_drew1 | refine below_set ?_ GE245.out) | exact HB.out))) A6.out).mono ?_); rintro e w11 ⟨rfl, hb⟩; have n0_ := Aside0.mk (blk_below (g := gb245) (o := .cells #[.int .i64 a0_0, .int .i64 a0_1, .int .i64 a0_2, .bool a0_3] 23 (0, 0)) (by (with_reducible repeat (first | refine blk_drewN ?_ _ | refine blk_drew ?_ | refine blk_alloc ?_ _)); exact BK245.out) hb); have n1_ := Aside0.mk (below_step (by repeat (first | (with_reducible first | exact HB.out | apply below_alloc | apply pw_below_drewN | apply below_drew1 | refine below_set ?_ GE245.out) | exact HB.out)) hb); clear BK245; clear HB; have BK245 := n0_; have HB := n1_; clear n0_ n1_; (try clear hb); (try clear hb2); (try clear hk); (try clear hi); have hcz12_0 : w11.cell? ⟨gb245, 0, none⟩ = some (.int .i64 a0_0) := (blk_cell BK245.out 0).trans rfl; have hcz12_1 : w11.cell? ⟨gb245, 1, none⟩ = some (.int .i64 a0_1) := (blk_cell BK245.out 1).trans rfl; have hcz12_2 : w11.cell? ⟨gb245, 2, none⟩ = some (.int .i64 a0_2) := (blk_cell BK245.out 2).trans rfl; have hcz12_3 : w11.cell? ⟨gb245, 3, none⟩ = some (.bool a0_3) := (blk_cell BK245.out 3).trans rfl; have hfz12_0 := blk_frozen BK245.out 0; have hfz12_1 := blk_frozen BK245.out 1; have hfz12_2 := blk_frozen BK245.out 2; have hfz12_3 := blk_frozen BK245.out 3) | (go_at_call 13; (with_reducible refine (word_Sub.calls t246 a0_1 a0_2 a0_3 t248 t249 _ (hS.go (by repeat (first | (with_reducible first | exact HB.out | apply below_alloc | apply pw_below_drewN | apply below_drew1 | refine below_set ?_ GE245.out) | exact HB.out))) A7.out).mono ?_); rintro e w13 ⟨rfl, hb⟩; have n0_ := Aside0.mk (blk_below (g := gb245) (o := .cells #[.int .i64 a0_0, .int .i64 a0_1, .int .i64 a0_2, .bool a0_3] 23 (0, 0)) (by (with_reducible repeat (first | refine blk_drewN ?_ _ | refine blk_drew ?_ | refine blk_alloc ?_ _)); exact BK245.out) hb); have n1_ := Aside0.mk (below_step (by repeat (first | (with_reducible first | exact HB.out | apply below_alloc | apply pw_below_drewN | apply below_drew1 | refine below_set ?_ GE245.out) | exact HB.out)) hb); clear BK245; clear HB; have BK245 := n0_; have HB := n1_; clear n0_ n1_; (try clear hb); (try clear hb2); (try clear hk); (try clear hi); have hcz14_0 : w13.cell? ⟨gb245, 0, none⟩ = some (.int .i64 a0_0) := (blk_cell BK245.out 0).trans rfl; have hcz14_1 : w13.cell? ⟨gb245, 1, none⟩ = some (.int .i64 a0_1) := (blk_cell BK245.out 1).trans rfl; have hcz14_2 : w13.cell? ⟨gb245, 2, none⟩ = some (.int .i64 a0_2) := (blk_cell BK245.out 2).trans rfl; have hcz14_3 : w13.cell? ⟨gb245, 3, none⟩ = some (.bool a0_3) := (blk_cell BK245.out 3).trans rfl; have hfz14_0 := blk_frozen BK245.out 0; have hfz14_1 := blk_frozen BK245.out 1; have hfz14_2 := blk_frozen BK245.out 2; have hfz14_3 := blk_frozen BK245.out 3) | (go_at_call 13; (with_reducible refine (word_Sub.calls a0_0 a0_1 a0_2 a0_3 t250 t251 _ (hS.go (by repeat (first | (with_reducible first | exact HB.out | apply below_alloc | apply pw_below_drewN | apply below_drew1 | refine below_set ?_ GE245.out) | exact HB.out))) A8.out).mono ?_); rintro e w15 ⟨rfl, hb⟩; have n0_ := Aside0.mk (blk_below (g := gb245) (o := .cells #[.int .i64 a0_0, .int .i64 a0_1, .int .i64 a0_2, .bool a0_3] 23 (0, 0)) (by (with_reducible repeat (first | refine blk_drewN ?_ _ | refine blk_drew ?_ | refine blk_alloc ?_ _)); exact BK245.out) hb); have n1_ := Aside0.mk (below_step (by repeat (first | (with_reducible first | exact HB.out | apply below_alloc | apply pw_below_drewN | apply below_drew1 | refine below_set ?_ GE245.out) | exact HB.out)) hb); clear BK245; clear HB; have BK245 := n0_; have HB := n1_; clear n0_ n1_; (try clear hb); (try clear hb2); (try clear hk); (try clear hi))))
      (try simp only [Act.put, List.setIfInBounds_toArray, List.set_cons_zero, List.set_cons_succ])
      go_cut [92] (fun v92 wc => ∃ (kq : Nat) (x92_8 : Bool), v92 = .bool x92_8 ∧ Aside0 (emulatorlaw01_WordUndo.j1 kq x3_1 t247 t251 x92_8 a0_0 a0_1 a0_2 a0_3 = some r) ∧ Aside0 (kq ≤ kj1) ∧ Aside0 (wc.heap[gb245]? = some (.cells #[.int .i64 a0_0, .int .i64 a0_1, .int .i64 a0_2, .bool a0_3] 23 (0, 0))) ∧ Aside0 (Below w.heap.size w wc))
      case first =>
        have H := HC9.out
        clear HC9
        by_cases c16 : t248 = (Go.bits .and .i64 a0_0 x3_1)
        · rw [if_pos c16] at H
          have c16b0 : (t248 == (Go.bits .and .i64 a0_0 x3_1)) = true := beq_iff_eq.mpr c16
          have c16b1 : (t248 != (Go.bits .and .i64 a0_0 x3_1)) = false := bne_eq_false_iff_eq.mpr c16
          clear c16
          (first | rw [c16b0] | (simp only [i64_w, i32_w]; rw [c16b0]) | skip)
          by_cases c17 : t246 = (Go.bits .and .i64 (wrap64 ((wrap64 ((Go.bits .and .i64 a0_0 x3_1) + (Go.bits .and .i64 a0_1 x3_1))) + (Go.bits .and .i64 a0_2 1))) x3_1)
          · rw [if_pos c17] at H
            have c17b0 : (t246 == (Go.bits .and .i64 (wrap64 ((wrap64 ((Go.bits .and .i64 a0_0 x3_1) + (Go.bits .and .i64 a0_1 x3_1))) + (Go.bits .and .i64 a0_2 1))) x3_1)) = true := beq_iff_eq.mpr c17
            have c17b1 : (t246 != (Go.bits .and .i64 (wrap64 ((wrap64 ((Go.bits .and .i64 a0_0 x3_1) + (Go.bits .and .i64 a0_1 x3_1))) + (Go.bits .and .i64 a0_2 1))) x3_1)) = false := bne_eq_false_iff_eq.mpr c17
            clear c17
            have H' := Aside0.mk H
            clear H
            have hcz18_0 : w15.cell? ⟨gb245, 0, none⟩ = some (.int .i64 a0_0) := (blk_cell BK245.out 0).trans rfl
            have hcz18_1 : w15.cell? ⟨gb245, 1, none⟩ = some (.int .i64 a0_1) := (blk_cell BK245.out 1).trans rfl
            have hcz18_2 : w15.cell? ⟨gb245, 2, none⟩ = some (.int .i64 a0_2) := (blk_cell BK245.out 2).trans rfl
            have hcz18_3 : w15.cell? ⟨gb245, 3, none⟩ = some (.bool a0_3) := (blk_cell BK245.out 3).trans rfl
            have hfz18_0 := blk_frozen BK245.out 0
            have hfz18_1 := blk_frozen BK245.out 1
            have hfz18_2 := blk_frozen BK245.out 2
            have hfz18_3 := blk_frozen BK245.out 3
            go_wp2
            repeat (go_quiet (fail); try go_wp2)
            go_meet
            case rel => exact ⟨_, ((t250 != (Go.bits .and .i64 (wrap64 ((wrap64 ((Go.bits .and .i64 a0_0 x3_1) - (Go.bits .and .i64 a0_1 x3_1))) - (Go.bits .and .i64 a0_2 1))) x3_1))), (by first | rfl | (simp; done) | (simp [*]; done)), H', ⟨by have := HJ1.out; first | omega | exact Nat.le_refl _⟩, ⟨by (with_reducible repeat (first | refine blk_drewN ?_ _ | refine blk_drew ?_ | refine blk_alloc ?_ _)); exact BK245.out⟩, ⟨by repeat (first | (with_reducible first | exact HB.out | apply below_alloc | apply pw_below_drewN | apply below_drew1 | refine below_set ?_ GE245.out) | exact HB.out)⟩⟩
          · rw [if_neg c17] at H
            have c17b0 : (t246 == (Go.bits .and .i64 (wrap64 ((wrap64 ((Go.bits .and .i64 a0_0 x3_1) + (Go.bits .and .i64 a0_1 x3_1))) + (Go.bits .and .i64 a0_2 1))) x3_1)) = false := beq_eq_false_iff_ne.mpr c17
            have c17b1 : (t246 != (Go.bits .and .i64 (wrap64 ((wrap64 ((Go.bits .and .i64 a0_0 x3_1) + (Go.bits .and .i64 a0_1 x3_1))) + (Go.bits .and .i64 a0_2 1))) x3_1)) = true := bne_iff_ne.mpr c17
            have H' := Aside0.mk H
            clear H
            have hcz19_0 : w15.cell? ⟨gb245, 0, none⟩ = some (.int .i64 a0_0) := (blk_cell BK245.out 0).trans rfl
            have hcz19_1 : w15.cell? ⟨gb245, 1, none⟩ = some (.int .i64 a0_1) := (blk_cell BK245.out 1).trans rfl
            have hcz19_2 : w15.cell? ⟨gb245, 2, none⟩ = some (.int .i64 a0_2) := (blk_cell BK245.out 2).trans rfl
            have hcz19_3 : w15.cell? ⟨gb245, 3, none⟩ = some (.bool a0_3) := (blk_cell BK245.out 3).trans rfl
            have hfz19_0 := blk_frozen BK245.out 0
            have hfz19_1 := blk_frozen BK245.out 1
            have hfz19_2 := blk_frozen BK245.out 2
            have hfz19_3 := blk_frozen BK245.out 3
            go_wp2
            repeat (go_quiet (fail); try go_wp2)
            go_meet
            case rel => exact ⟨_, (true), (by first | rfl | (simp; done) | (simp [*]; done)), H', ⟨by have := HJ1.out; first | omega | exact Nat.le_refl _⟩, ⟨by (with_reducible repeat (first | refine blk_drewN ?_ _ | refine blk_drew ?_ | refine blk_alloc ?_ _)); exact BK245.out⟩, ⟨by repeat (first | (with_reducible first | exact HB.out | apply below_alloc | apply pw_below_drewN | apply below_drew1 | refine below_set ?_ GE245.out) | exact HB.out)⟩⟩
        · rw [if_neg c16] at H
          have c16b0 : (t248 == (Go.bits .and .i64 a0_0 x3_1)) = false := beq_eq_false_iff_ne.mpr c16
          have c16b1 : (t248 != (Go.bits .and .i64 a0_0 x3_1)) = true := bne_iff_ne.mpr c16
          (first | rw [c16b0] | (simp only [i64_w, i32_w]; rw [c16b0]) | skip)
          have H' := Aside0.mk H
          clear H
          have hcz20_0 : w15.cell? ⟨gb245, 0, none⟩ = some (.int .i64 a0_0) := (blk_cell BK245.out 0).trans rfl
          have hcz20_1 : w15.cell? ⟨gb245, 1, none⟩ = some (.int .i64 a0_1) := (blk_cell BK245.out 1).trans rfl
          have hcz20_2 : w15.cell? ⟨gb245, 2, none⟩ = some (.int .i64 a0_2) := (blk_cell BK245.out 2).trans rfl
          have hcz20_3 : w15.cell? ⟨gb245, 3, none⟩ = some (.bool a0_3) := (blk_cell BK245.out 3).trans rfl
          have hfz20_0 := blk_frozen BK245.out 0
          have hfz20_1 := blk_frozen BK245.out 1
          have hfz20_2 := blk_frozen BK245.out 2
          have hfz20_3 := blk_frozen BK245.out 3
          go_wp2
          repeat (go_quiet (fail); try go_wp2)
          go_meet
          case rel => exact ⟨_, (true), (by first | rfl | (simp; done) | (simp [*]; done)), H', ⟨by have := HJ1.out; first | omega | exact Nat.le_refl _⟩, ⟨by (with_reducible repeat (first | refine blk_drewN ?_ _ | refine blk_drew ?_ | refine blk_alloc ?_ _)); exact BK245.out⟩, ⟨by repeat (first | (with_reducible first | exact HB.out | apply below_alloc | apply pw_below_drewN | apply below_drew1 | refine below_set ?_ GE245.out) | exact HB.out)⟩⟩
      case rest =>
        clear HC9
        try clear c1
        try clear p2
        try clear c5
        try clear p6
        try clear c7
        try clear c16
        try clear c16b0
        try clear c16b1
        try clear c17
        try clear c17b0
        try clear c17b1
        try clear hcz10_0
        try clear hcz10_1
        try clear hcz10_2
        try clear hcz10_3
        try clear hcz12_0
        try clear hcz12_1
        try clear hcz12_2
        try clear hcz12_3
        try clear hcz14_0
        try clear hcz14_1
        try clear hcz14_2
        try clear hcz14_3
        try clear hcz18_0
        try clear hcz18_1
        try clear hcz18_2
        try clear hcz18_3
        try clear hcz19_0
        try clear hcz19_1
        try clear hcz19_2
        try clear hcz19_3
        try clear hcz20_0
        try clear hcz20_1
        try clear hcz20_2
        try clear hcz20_3
        try clear hcz4_0
        try clear hcz4_1
        try clear hcz4_2
        try clear hcz4_3
        try clear hfz10_0
        try clear hfz10_1
        try clear hfz10_2
        try clear hfz10_3
        try clear hfz12_0
        try clear hfz12_1
        try clear hfz12_2
        try clear hfz12_3
        try clear hfz14_0
        try clear hfz14_1
        try clear hfz14_2
        try clear hfz14_3
        try clear hfz18_0
        try clear hfz18_1
        try clear hfz18_2
        try clear hfz18_3
        try clear hfz19_0
        try clear hfz19_1
        try clear hfz19_2
        try clear hfz19_3
        try clear hfz20_0
        try clear hfz20_1
        try clear hfz20_2
        try clear hfz20_3
        try clear hfz4_0
        try clear hfz4_1
        try clear hfz4_2
        try clear hfz4_3
        try clear p2
        obtain ⟨kq, x92_8, rfl, HA, HJ8, BK245, HB⟩ := hcut
        cases kq with
        | zero => exact absurd HA.out (by simp [emulatorlaw01_WordUndo.j1])
        | succ kj8 =>
          have H := HA.out
          clear HA
          simp only [emulatorlaw01_WordUndo.j1] at H
          by_cases c21 : x92_8 = true
          · subst c21
            have H1 : (some false) = some r := by rw [if_pos rfl] at H; exact H
            clear H
            have H := H1
            clear H1
            exact absurd (H.trans (congrArg some hr_.out)) (by decide)
          · replace c21 := Bool.eq_false_iff.mpr c21
            subst c21
            have H1 : ((emulatorlaw01_signed.f (Go.bits .and .i64 a0_0 x3_1) a0_3).bind fun t252 => ((emulatorlaw01_signed.f (Go.bits .and .i64 a0_1 x3_1) a0_3).bind fun t253 => ((emulatorlaw01_signed.f (Go.bits .and .i64 a0_0 x3_1) a0_3).bind fun t254 => ((emulatorlaw01_signed.f (Go.bits .and .i64 a0_1 x3_1) a0_3).bind fun t255 => ((emulatorlaw01_signed.f (wrap64 ((wrap64 (t252 + t253)) + (Go.bits .and .i64 a0_2 1))) a0_3).bind fun t256 => (if (((Go.bits .and .i64 t247 2) != 0) != ((wrap64 ((wrap64 (t252 + t253)) + (Go.bits .and .i64 a0_2 1))) != t256)) = true then (some false) else ((emulatorlaw01_signed.f (wrap64 ((wrap64 (t254 - t255)) - (Go.bits .and .i64 a0_2 1))) a0_3).bind fun t257 => (if (((Go.bits .and .i64 t251 2) != 0) != ((wrap64 ((wrap64 (t254 - t255)) - (Go.bits .and .i64 a0_2 1))) != t257)) = true then (some false) else (if (((Go.bits .and .i64 t247 1) != 0) == (decide ((wrap64 ((wrap64 ((Go.bits .and .i64 a0_0 x3_1) + (Go.bits .and .i64 a0_1 x3_1))) + (Go.bits .and .i64 a0_2 1))) > x3_1))) = true then (if (((Go.bits .and .i64 t251 1) != 0) == (decide ((wrap64 ((wrap64 ((Go.bits .and .i64 a0_0 x3_1) - (Go.bits .and .i64 a0_1 x3_1))) - (Go.bits .and .i64 a0_2 1))) < 0))) = true then ((emulatorlaw01_alive.f kj8).bind fun t258 => (some t258)) else (some false)) else (some false)))))))))) = some r := by rw [if_neg (show ¬ (false = true) by decide)] at H; exact H
            clear H
            have H := H1
            clear H1
            replace H := Option.bind_eq_some_iff.mp H
            obtain ⟨t252, A220, H⟩ := H
            replace H : ((emulatorlaw01_signed.f (Go.bits .and .i64 a0_1 x3_1) a0_3).bind fun t253 => ((emulatorlaw01_signed.f (Go.bits .and .i64 a0_0 x3_1) a0_3).bind fun t254 => ((emulatorlaw01_signed.f (Go.bits .and .i64 a0_1 x3_1) a0_3).bind fun t255 => ((emulatorlaw01_signed.f (wrap64 ((wrap64 (t252 + t253)) + (Go.bits .and .i64 a0_2 1))) a0_3).bind fun t256 => (if (((Go.bits .and .i64 t247 2) != 0) != ((wrap64 ((wrap64 (t252 + t253)) + (Go.bits .and .i64 a0_2 1))) != t256)) = true then (some false) else ((emulatorlaw01_signed.f (wrap64 ((wrap64 (t254 - t255)) - (Go.bits .and .i64 a0_2 1))) a0_3).bind fun t257 => (if (((Go.bits .and .i64 t251 2) != 0) != ((wrap64 ((wrap64 (t254 - t255)) - (Go.bits .and .i64 a0_2 1))) != t257)) = true then (some false) else (if (((Go.bits .and .i64 t247 1) != 0) == (decide ((wrap64 ((wrap64 ((Go.bits .and .i64 a0_0 x3_1) + (Go.bits .and .i64 a0_1 x3_1))) + (Go.bits .and .i64 a0_2 1))) > x3_1))) = true then (if (((Go.bits .and .i64 t251 1) != 0) == (decide ((wrap64 ((wrap64 ((Go.bits .and .i64 a0_0 x3_1) - (Go.bits .and .i64 a0_1 x3_1))) - (Go.bits .and .i64 a0_2 1))) < 0))) = true then ((emulatorlaw01_alive.f kj8).bind fun t258 => (some t258)) else (some false)) else (some false))))))))) = some r := H
            have A22 := Aside0.mk A220
            clear A220
            replace H := Option.bind_eq_some_iff.mp H
            obtain ⟨t253, A230, H⟩ := H
            replace H : ((emulatorlaw01_signed.f (Go.bits .and .i64 a0_0 x3_1) a0_3).bind fun t254 => ((emulatorlaw01_signed.f (Go.bits .and .i64 a0_1 x3_1) a0_3).bind fun t255 => ((emulatorlaw01_signed.f (wrap64 ((wrap64 (t252 + t253)) + (Go.bits .and .i64 a0_2 1))) a0_3).bind fun t256 => (if (((Go.bits .and .i64 t247 2) != 0) != ((wrap64 ((wrap64 (t252 + t253)) + (Go.bits .and .i64 a0_2 1))) != t256)) = true then (some false) else ((emulatorlaw01_signed.f (wrap64 ((wrap64 (t254 - t255)) - (Go.bits .and .i64 a0_2 1))) a0_3).bind fun t257 => (if (((Go.bits .and .i64 t251 2) != 0) != ((wrap64 ((wrap64 (t254 - t255)) - (Go.bits .and .i64 a0_2 1))) != t257)) = true then (some false) else (if (((Go.bits .and .i64 t247 1) != 0) == (decide ((wrap64 ((wrap64 ((Go.bits .and .i64 a0_0 x3_1) + (Go.bits .and .i64 a0_1 x3_1))) + (Go.bits .and .i64 a0_2 1))) > x3_1))) = true then (if (((Go.bits .and .i64 t251 1) != 0) == (decide ((wrap64 ((wrap64 ((Go.bits .and .i64 a0_0 x3_1) - (Go.bits .and .i64 a0_1 x3_1))) - (Go.bits .and .i64 a0_2 1))) < 0))) = true then ((emulatorlaw01_alive.f kj8).bind fun t258 => (some t258)) else (some false)) else (some false)))))))) = some r := H
            have A23 := Aside0.mk A230
            clear A230
            replace H := Option.bind_eq_some_iff.mp H
            obtain ⟨t254, A240, H⟩ := H
            replace H : ((emulatorlaw01_signed.f (Go.bits .and .i64 a0_1 x3_1) a0_3).bind fun t255 => ((emulatorlaw01_signed.f (wrap64 ((wrap64 (t252 + t253)) + (Go.bits .and .i64 a0_2 1))) a0_3).bind fun t256 => (if (((Go.bits .and .i64 t247 2) != 0) != ((wrap64 ((wrap64 (t252 + t253)) + (Go.bits .and .i64 a0_2 1))) != t256)) = true then (some false) else ((emulatorlaw01_signed.f (wrap64 ((wrap64 (t254 - t255)) - (Go.bits .and .i64 a0_2 1))) a0_3).bind fun t257 => (if (((Go.bits .and .i64 t251 2) != 0) != ((wrap64 ((wrap64 (t254 - t255)) - (Go.bits .and .i64 a0_2 1))) != t257)) = true then (some false) else (if (((Go.bits .and .i64 t247 1) != 0) == (decide ((wrap64 ((wrap64 ((Go.bits .and .i64 a0_0 x3_1) + (Go.bits .and .i64 a0_1 x3_1))) + (Go.bits .and .i64 a0_2 1))) > x3_1))) = true then (if (((Go.bits .and .i64 t251 1) != 0) == (decide ((wrap64 ((wrap64 ((Go.bits .and .i64 a0_0 x3_1) - (Go.bits .and .i64 a0_1 x3_1))) - (Go.bits .and .i64 a0_2 1))) < 0))) = true then ((emulatorlaw01_alive.f kj8).bind fun t258 => (some t258)) else (some false)) else (some false))))))) = some r := H
            have A24 := Aside0.mk A240
            clear A240
            obtain rfl : t252 = t254 := Option.some.inj (A22.out.symm.trans A24.out)
            replace H := Option.bind_eq_some_iff.mp H
            obtain ⟨t255, A250, H⟩ := H
            replace H : ((emulatorlaw01_signed.f (wrap64 ((wrap64 (t252 + t253)) + (Go.bits .and .i64 a0_2 1))) a0_3).bind fun t256 => (if (((Go.bits .and .i64 t247 2) != 0) != ((wrap64 ((wrap64 (t252 + t253)) + (Go.bits .and .i64 a0_2 1))) != t256)) = true then (some false) else ((emulatorlaw01_signed.f (wrap64 ((wrap64 (t252 - t255)) - (Go.bits .and .i64 a0_2 1))) a0_3).bind fun t257 => (if (((Go.bits .and .i64 t251 2) != 0) != ((wrap64 ((wrap64 (t252 - t255)) - (Go.bits .and .i64 a0_2 1))) != t257)) = true then (some false) else (if (((Go.bits .and .i64 t247 1) != 0) == (decide ((wrap64 ((wrap64 ((Go.bits .and .i64 a0_0 x3_1) + (Go.bits .and .i64 a0_1 x3_1))) + (Go.bits .and .i64 a0_2 1))) > x3_1))) = true then (if (((Go.bits .and .i64 t251 1) != 0) == (decide ((wrap64 ((wrap64 ((Go.bits .and .i64 a0_0 x3_1) - (Go.bits .and .i64 a0_1 x3_1))) - (Go.bits .and .i64 a0_2 1))) < 0))) = true then ((emulatorlaw01_alive.f kj8).bind fun t258 => (some t258)) else (some false)) else (some false)))))) = some r := H
            have A25 := Aside0.mk A250
            clear A250
            obtain rfl : t253 = t255 := Option.some.inj (A23.out.symm.trans A25.out)
            replace H := Option.bind_eq_some_iff.mp H
            obtain ⟨t256, A260, H⟩ := H
            replace H : (if (((Go.bits .and .i64 t247 2) != 0) != ((wrap64 ((wrap64 (t252 + t253)) + (Go.bits .and .i64 a0_2 1))) != t256)) = true then (some false) else ((emulatorlaw01_signed.f (wrap64 ((wrap64 (t252 - t253)) - (Go.bits .and .i64 a0_2 1))) a0_3).bind fun t257 => (if (((Go.bits .and .i64 t251 2) != 0) != ((wrap64 ((wrap64 (t252 - t253)) - (Go.bits .and .i64 a0_2 1))) != t257)) = true then (some false) else (if (((Go.bits .and .i64 t247 1) != 0) == (decide ((wrap64 ((wrap64 ((Go.bits .and .i64 a0_0 x3_1) + (Go.bits .and .i64 a0_1 x3_1))) + (Go.bits .and .i64 a0_2 1))) > x3_1))) = true then (if (((Go.bits .and .i64 t251 1) != 0) == (decide ((wrap64 ((wrap64 ((Go.bits .and .i64 a0_0 x3_1) - (Go.bits .and .i64 a0_1 x3_1))) - (Go.bits .and .i64 a0_2 1))) < 0))) = true then ((emulatorlaw01_alive.f kj8).bind fun t258 => (some t258)) else (some false)) else (some false))))) = some r := H
            have A26 := Aside0.mk A260
            clear A260
            by_cases c27 : (((Go.bits .and .i64 t247 2) != 0) != ((wrap64 ((wrap64 (t252 + t253)) + (Go.bits .and .i64 a0_2 1))) != t256)) = true
            · rw [if_pos c27] at H
              exact absurd (H.trans (congrArg some hr_.out)) (by decide)
            · rw [if_neg c27] at H
              have c27b0 : (((Go.bits .and .i64 t247 2) != 0) != ((wrap64 ((wrap64 (t252 + t253)) + (Go.bits .and .i64 a0_2 1))) != t256)) = false := by simpa using c27
              (try (have c27b1 : decide (((Go.bits .and .i64 t247 2) != 0) = ((wrap64 ((wrap64 (t252 + t253)) + (Go.bits .and .i64 a0_2 1))) != t256)) = true := by simpa using c27))
              (try (have c27b2 : (((Go.bits .and .i64 t247 2) != 0) == ((wrap64 ((wrap64 (t252 + t253)) + (Go.bits .and .i64 a0_2 1))) != t256)) = true := by simpa using c27))
              clear c27
              replace H := Option.bind_eq_some_iff.mp H
              obtain ⟨t257, A290, H⟩ := H
              replace H : (if (((Go.bits .and .i64 t251 2) != 0) != ((wrap64 ((wrap64 (t252 - t253)) - (Go.bits .and .i64 a0_2 1))) != t257)) = true then (some false) else (if (((Go.bits .and .i64 t247 1) != 0) == (decide ((wrap64 ((wrap64 ((Go.bits .and .i64 a0_0 x3_1) + (Go.bits .and .i64 a0_1 x3_1))) + (Go.bits .and .i64 a0_2 1))) > x3_1))) = true then (if (((Go.bits .and .i64 t251 1) != 0) == (decide ((wrap64 ((wrap64 ((Go.bits .and .i64 a0_0 x3_1) - (Go.bits .and .i64 a0_1 x3_1))) - (Go.bits .and .i64 a0_2 1))) < 0))) = true then ((emulatorlaw01_alive.f kj8).bind fun t258 => (some t258)) else (some false)) else (some false))) = some r := H
              have A29 := Aside0.mk A290
              clear A290
              by_cases c30 : (((Go.bits .and .i64 t251 2) != 0) != ((wrap64 ((wrap64 (t252 - t253)) - (Go.bits .and .i64 a0_2 1))) != t257)) = true
              · rw [if_pos c30] at H
                exact absurd (H.trans (congrArg some hr_.out)) (by decide)
              · rw [if_neg c30] at H
                have c30b0 : (((Go.bits .and .i64 t251 2) != 0) != ((wrap64 ((wrap64 (t252 - t253)) - (Go.bits .and .i64 a0_2 1))) != t257)) = false := by simpa using c30
                (try (have c30b1 : decide (((Go.bits .and .i64 t251 2) != 0) = ((wrap64 ((wrap64 (t252 - t253)) - (Go.bits .and .i64 a0_2 1))) != t257)) = true := by simpa using c30))
                (try (have c30b2 : (((Go.bits .and .i64 t251 2) != 0) == ((wrap64 ((wrap64 (t252 - t253)) - (Go.bits .and .i64 a0_2 1))) != t257)) = true := by simpa using c30))
                clear c30
                by_cases c32 : (((Go.bits .and .i64 t247 1) != 0) == (decide ((wrap64 ((wrap64 ((Go.bits .and .i64 a0_0 x3_1) + (Go.bits .and .i64 a0_1 x3_1))) + (Go.bits .and .i64 a0_2 1))) > x3_1))) = true
                · rw [if_pos c32] at H
                  have c32b0 : (((Go.bits .and .i64 t247 1) != 0) == (decide ((wrap64 ((wrap64 ((Go.bits .and .i64 a0_0 x3_1) + (Go.bits .and .i64 a0_1 x3_1))) + (Go.bits .and .i64 a0_2 1))) > x3_1))) = true := c32
                  (try (have c32b1 : decide (((Go.bits .and .i64 t247 1) != 0) = (decide ((wrap64 ((wrap64 ((Go.bits .and .i64 a0_0 x3_1) + (Go.bits .and .i64 a0_1 x3_1))) + (Go.bits .and .i64 a0_2 1))) > x3_1))) = true := by simpa using c32))
                  (try (have c32b2 : (((Go.bits .and .i64 t247 1) != 0) == (decide ((wrap64 ((wrap64 ((Go.bits .and .i64 a0_0 x3_1) + (Go.bits .and .i64 a0_1 x3_1))) + (Go.bits .and .i64 a0_2 1))) > x3_1))) = true := by simpa using c32))
                  clear c32
                  by_cases c33 : (((Go.bits .and .i64 t251 1) != 0) == (decide ((wrap64 ((wrap64 ((Go.bits .and .i64 a0_0 x3_1) - (Go.bits .and .i64 a0_1 x3_1))) - (Go.bits .and .i64 a0_2 1))) < 0))) = true
                  · rw [if_pos c33] at H
                    have c33b0 : (((Go.bits .and .i64 t251 1) != 0) == (decide ((wrap64 ((wrap64 ((Go.bits .and .i64 a0_0 x3_1) - (Go.bits .and .i64 a0_1 x3_1))) - (Go.bits .and .i64 a0_2 1))) < 0))) = true := c33
                    (try (have c33b1 : decide (((Go.bits .and .i64 t251 1) != 0) = (decide ((wrap64 ((wrap64 ((Go.bits .and .i64 a0_0 x3_1) - (Go.bits .and .i64 a0_1 x3_1))) - (Go.bits .and .i64 a0_2 1))) < 0))) = true := by simpa using c33))
                    (try (have c33b2 : (((Go.bits .and .i64 t251 1) != 0) == (decide ((wrap64 ((wrap64 ((Go.bits .and .i64 a0_0 x3_1) - (Go.bits .and .i64 a0_1 x3_1))) - (Go.bits .and .i64 a0_2 1))) < 0))) = true := by simpa using c33))
                    clear c33
                    replace H := Option.bind_eq_some_iff.mp H
                    obtain ⟨t258, A340, H⟩ := H
                    replace H : (some t258) = some r := H
                    have A34 := Aside0.mk A340
                    clear A340
                    obtain rfl := Option.some.inj H
                    have hcz35_0 : wc.cell? ⟨gb245, 0, none⟩ = some (.int .i64 a0_0) := (blk_cell BK245.out 0).trans rfl
                    have hcz35_1 : wc.cell? ⟨gb245, 1, none⟩ = some (.int .i64 a0_1) := (blk_cell BK245.out 1).trans rfl
                    have hcz35_2 : wc.cell? ⟨gb245, 2, none⟩ = some (.int .i64 a0_2) := (blk_cell BK245.out 2).trans rfl
                    have hcz35_3 : wc.cell? ⟨gb245, 3, none⟩ = some (.bool a0_3) := (blk_cell BK245.out 3).trans rfl
                    have hfz35_0 := blk_frozen BK245.out 0
                    have hfz35_1 := blk_frozen BK245.out 1
                    have hfz35_2 := blk_frozen BK245.out 2
                    have hfz35_3 := blk_frozen BK245.out 3
                    go_wp2_with (first | (go_at_call 24; (with_reducible refine (emulatorlaw01_signed.calls (Go.bits .and .i64 a0_0 x3_1) a0_3 t252 _ A22.out).mono ?_); rintro e w' ⟨rfl, ⟨nd, rfl⟩⟩; (try first | exact ⟨rfl, _, World.drewN_drewN _ _ _⟩ | exact ⟨rfl, _, Eq.trans (World.drewN_drewN _ _ _) (congrArg (World.drewN _) (Nat.add_assoc _ _ _))⟩)) | (go_at_call 24; (with_reducible refine (emulatorlaw01_signed.calls (Go.bits .and .i64 a0_1 x3_1) a0_3 t253 _ A23.out).mono ?_); rintro e w' ⟨rfl, ⟨nd, rfl⟩⟩; (try first | exact ⟨rfl, _, World.drewN_drewN _ _ _⟩ | exact ⟨rfl, _, Eq.trans (World.drewN_drewN _ _ _) (congrArg (World.drewN _) (Nat.add_assoc _ _ _))⟩)) | (go_at_call 24; (with_reducible refine (emulatorlaw01_signed.calls (Go.bits .and .i64 a0_0 x3_1) a0_3 t252 _ A24.out).mono ?_); rintro e w' ⟨rfl, ⟨nd, rfl⟩⟩; (try first | exact ⟨rfl, _, World.drewN_drewN _ _ _⟩ | exact ⟨rfl, _, Eq.trans (World.drewN_drewN _ _ _) (congrArg (World.drewN _) (Nat.add_assoc _ _ _))⟩)) | (go_at_call 24; (with_reducible refine (emulatorlaw01_signed.calls (Go.bits .and .i64 a0_1 x3_1) a0_3 t253 _ A25.out).mono ?_); rintro e w' ⟨rfl, ⟨nd, rfl⟩⟩; (try first | exact ⟨rfl, _, World.drewN_drewN _ _ _⟩ | exact ⟨rfl, _, Eq.trans (World.drewN_drewN _ _ _) (congrArg (World.drewN _) (Nat.add_assoc _ _ _))⟩)) | (go_at_call 24; (with_reducible refine (emulatorlaw01_signed.calls (wrap64 ((wrap64 (t252 + t253)) + (Go.bits .and .i64 a0_2 1))) a0_3 t256 _ A26.out).mono ?_); rintro e w' ⟨rfl, ⟨nd, rfl⟩⟩; (try first | exact ⟨rfl, _, World.drewN_drewN _ _ _⟩ | exact ⟨rfl, _, Eq.trans (World.drewN_drewN _ _ _) (congrArg (World.drewN _) (Nat.add_assoc _ _ _))⟩)) | (go_at_call 24; (with_reducible refine (emulatorlaw01_signed.calls (wrap64 ((wrap64 (t252 - t253)) - (Go.bits .and .i64 a0_2 1))) a0_3 t257 _ A29.out).mono ?_); rintro e w' ⟨rfl, ⟨nd, rfl⟩⟩; (try first | exact ⟨rfl, _, World.drewN_drewN _ _ _⟩ | exact ⟨rfl, _, Eq.trans (World.drewN_drewN _ _ _) (congrArg (World.drewN _) (Nat.add_assoc _ _ _))⟩)) | (go_at_call 15; (with_reducible refine (emulatorlaw01_alive.calls kj8  t258 _ (hS.go (by repeat (first | (with_reducible first | exact HB.out | apply below_alloc | apply pw_below_drewN | apply below_drew1 | refine below_set ?_ GE245.out) | exact HB.out))) A34.out).mono ?_); rintro e w36 ⟨rfl, hb⟩; have n0_ := Aside0.mk (blk_below (g := gb245) (o := .cells #[.int .i64 a0_0, .int .i64 a0_1, .int .i64 a0_2, .bool a0_3] 23 (0, 0)) (by (with_reducible repeat (first | refine blk_drewN ?_ _ | refine blk_drew ?_ | refine blk_alloc ?_ _)); exact BK245.out) hb); have n1_ := Aside0.mk (below_step (by repeat (first | (with_reducible first | exact HB.out | apply below_alloc | apply pw_below_drewN | apply below_drew1 | refine below_set ?_ GE245.out) | exact HB.out)) hb); clear BK245; clear HB; have BK245 := n0_; have HB := n1_; clear n0_ n1_; (try clear hb); (try clear hb2); (try clear hk); (try clear hi)))
                    repeat (go_quiet (first | (go_at_call 24; (with_reducible refine (emulatorlaw01_signed.calls (Go.bits .and .i64 a0_0 x3_1) a0_3 t252 _ A22.out).mono ?_); rintro e w' ⟨rfl, ⟨nd, rfl⟩⟩; (try first | exact ⟨rfl, _, World.drewN_drewN _ _ _⟩ | exact ⟨rfl, _, Eq.trans (World.drewN_drewN _ _ _) (congrArg (World.drewN _) (Nat.add_assoc _ _ _))⟩)) | (go_at_call 24; (with_reducible refine (emulatorlaw01_signed.calls (Go.bits .and .i64 a0_1 x3_1) a0_3 t253 _ A23.out).mono ?_); rintro e w' ⟨rfl, ⟨nd, rfl⟩⟩; (try first | exact ⟨rfl, _, World.drewN_drewN _ _ _⟩ | exact ⟨rfl, _, Eq.trans (World.drewN_drewN _ _ _) (congrArg (World.drewN _) (Nat.add_assoc _ _ _))⟩)) | (go_at_call 24; (with_reducible refine (emulatorlaw01_signed.calls (Go.bits .and .i64 a0_0 x3_1) a0_3 t252 _ A24.out).mono ?_); rintro e w' ⟨rfl, ⟨nd, rfl⟩⟩; (try first | exact ⟨rfl, _, World.drewN_drewN _ _ _⟩ | exact ⟨rfl, _, Eq.trans (World.drewN_drewN _ _ _) (congrArg (World.drewN _) (Nat.add_assoc _ _ _))⟩)) | (go_at_call 24; (with_reducible refine (emulatorlaw01_signed.calls (Go.bits .and .i64 a0_1 x3_1) a0_3 t253 _ A25.out).mono ?_); rintro e w' ⟨rfl, ⟨nd, rfl⟩⟩; (try first | exact ⟨rfl, _, World.drewN_drewN _ _ _⟩ | exact ⟨rfl, _, Eq.trans (World.drewN_drewN _ _ _) (congrArg (World.drewN _) (Nat.add_assoc _ _ _))⟩)) | (go_at_call 24; (with_reducible refine (emulatorlaw01_signed.calls (wrap64 ((wrap64 (t252 + t253)) + (Go.bits .and .i64 a0_2 1))) a0_3 t256 _ A26.out).mono ?_); rintro e w' ⟨rfl, ⟨nd, rfl⟩⟩; (try first | exact ⟨rfl, _, World.drewN_drewN _ _ _⟩ | exact ⟨rfl, _, Eq.trans (World.drewN_drewN _ _ _) (congrArg (World.drewN _) (Nat.add_assoc _ _ _))⟩)) | (go_at_call 24; (with_reducible refine (emulatorlaw01_signed.calls (wrap64 ((wrap64 (t252 - t253)) - (Go.bits .and .i64 a0_2 1))) a0_3 t257 _ A29.out).mono ?_); rintro e w' ⟨rfl, ⟨nd, rfl⟩⟩; (try first | exact ⟨rfl, _, World.drewN_drewN _ _ _⟩ | exact ⟨rfl, _, Eq.trans (World.drewN_drewN _ _ _) (congrArg (World.drewN _) (Nat.add_assoc _ _ _))⟩)) | (go_at_call 15; (with_reducible refine (emulatorlaw01_alive.calls kj8  t258 _ (hS.go (by repeat (first | (with_reducible first | exact HB.out | apply below_alloc | apply pw_below_drewN | apply below_drew1 | refine below_set ?_ GE245.out) | exact HB.out))) A34.out).mono ?_); rintro e w36 ⟨rfl, hb⟩; have n0_ := Aside0.mk (blk_below (g := gb245) (o := .cells #[.int .i64 a0_0, .int .i64 a0_1, .int .i64 a0_2, .bool a0_3] 23 (0, 0)) (by (with_reducible repeat (first | refine blk_drewN ?_ _ | refine blk_drew ?_ | refine blk_alloc ?_ _)); exact BK245.out) hb); have n1_ := Aside0.mk (below_step (by repeat (first | (with_reducible first | exact HB.out | apply below_alloc | apply pw_below_drewN | apply below_drew1 | refine below_set ?_ GE245.out) | exact HB.out)) hb); clear BK245; clear HB; have BK245 := n0_; have HB := n1_; clear n0_ n1_; (try clear hb); (try clear hb2); (try clear hk); (try clear hi))); try go_wp2_with (first | (go_at_call 24; (with_reducible refine (emulatorlaw01_signed.calls (Go.bits .and .i64 a0_0 x3_1) a0_3 t252 _ A22.out).mono ?_); rintro e w' ⟨rfl, ⟨nd, rfl⟩⟩; (try first | exact ⟨rfl, _, World.drewN_drewN _ _ _⟩ | exact ⟨rfl, _, Eq.trans (World.drewN_drewN _ _ _) (congrArg (World.drewN _) (Nat.add_assoc _ _ _))⟩)) | (go_at_call 24; (with_reducible refine (emulatorlaw01_signed.calls (Go.bits .and .i64 a0_1 x3_1) a0_3 t253 _ A23.out).mono ?_); rintro e w' ⟨rfl, ⟨nd, rfl⟩⟩; (try first | exact ⟨rfl, _, World.drewN_drewN _ _ _⟩ | exact ⟨rfl, _, Eq.trans (World.drewN_drewN _ _ _) (congrArg (World.drewN _) (Nat.add_assoc _ _ _))⟩)) | (go_at_call 24; (with_reducible refine (emulatorlaw01_signed.calls (Go.bits .and .i64 a0_0 x3_1) a0_3 t252 _ A24.out).mono ?_); rintro e w' ⟨rfl, ⟨nd, rfl⟩⟩; (try first | exact ⟨rfl, _, World.drewN_drewN _ _ _⟩ | exact ⟨rfl, _, Eq.trans (World.drewN_drewN _ _ _) (congrArg (World.drewN _) (Nat.add_assoc _ _ _))⟩)) | (go_at_call 24; (with_reducible refine (emulatorlaw01_signed.calls (Go.bits .and .i64 a0_1 x3_1) a0_3 t253 _ A25.out).mono ?_); rintro e w' ⟨rfl, ⟨nd, rfl⟩⟩; (try first | exact ⟨rfl, _, World.drewN_drewN _ _ _⟩ | exact ⟨rfl, _, Eq.trans (World.drewN_drewN _ _ _) (congrArg (World.drewN _) (Nat.add_assoc _ _ _))⟩)) | (go_at_call 24; (with_reducible refine (emulatorlaw01_signed.calls (wrap64 ((wrap64 (t252 + t253)) + (Go.bits .and .i64 a0_2 1))) a0_3 t256 _ A26.out).mono ?_); rintro e w' ⟨rfl, ⟨nd, rfl⟩⟩; (try first | exact ⟨rfl, _, World.drewN_drewN _ _ _⟩ | exact ⟨rfl, _, Eq.trans (World.drewN_drewN _ _ _) (congrArg (World.drewN _) (Nat.add_assoc _ _ _))⟩)) | (go_at_call 24; (with_reducible refine (emulatorlaw01_signed.calls (wrap64 ((wrap64 (t252 - t253)) - (Go.bits .and .i64 a0_2 1))) a0_3 t257 _ A29.out).mono ?_); rintro e w' ⟨rfl, ⟨nd, rfl⟩⟩; (try first | exact ⟨rfl, _, World.drewN_drewN _ _ _⟩ | exact ⟨rfl, _, Eq.trans (World.drewN_drewN _ _ _) (congrArg (World.drewN _) (Nat.add_assoc _ _ _))⟩)) | (go_at_call 15; (with_reducible refine (emulatorlaw01_alive.calls kj8  t258 _ (hS.go (by repeat (first | (with_reducible first | exact HB.out | apply below_alloc | apply pw_below_drewN | apply below_drew1 | refine below_set ?_ GE245.out) | exact HB.out))) A34.out).mono ?_); rintro e w36 ⟨rfl, hb⟩; have n0_ := Aside0.mk (blk_below (g := gb245) (o := .cells #[.int .i64 a0_0, .int .i64 a0_1, .int .i64 a0_2, .bool a0_3] 23 (0, 0)) (by (with_reducible repeat (first | refine blk_drewN ?_ _ | refine blk_drew ?_ | refine blk_alloc ?_ _)); exact BK245.out) hb); have n1_ := Aside0.mk (below_step (by repeat (first | (with_reducible first | exact HB.out | apply below_alloc | apply pw_below_drewN | apply below_drew1 | refine below_set ?_ GE245.out) | exact HB.out)) hb); clear BK245; clear HB; have BK245 := n0_; have HB := n1_; clear n0_ n1_; (try clear hb); (try clear hb2); (try clear hk); (try clear hi))))
                    go_ret
                    exact ⟨by first | rfl | (simp [errW_none, errW_some] <;> rfl) | (simp [*, errW_none, errW_some] <;> rfl), by repeat (first | (with_reducible first | exact HB.out | apply below_alloc | apply pw_below_drewN | apply below_drew1 | refine below_set ?_ GE245.out) | exact HB.out)⟩
                  · rw [if_neg c33] at H
                    exact absurd (H.trans (congrArg some hr_.out)) (by decide)
                · rw [if_neg c32] at H
                  exact absurd (H.trans (congrArg some hr_.out)) (by decide)end Go.Proofs.YtiodpkkigjfkgaaDoor.A
