-- Written by a program of this session (mp.py) over the kit's print.py, with proofs by hand for what the print does not take.
import Derived.Test.YtamncbcephalaaaAx0
import Derived.Test.YtamncbcephalaaaAx1
import Derived.Test.YtamncbcephalaaaAx3
import Derived.Test.YtamncbcephalaaaAx4
import Derived.Test.YtamncbcephalaaaAx5
import Derived.Test.YtamncbcephalaaaAx7
namespace Go.Proofs.Ytamncbcephalaaa.A
open Go.RowKit Go.Proofs.YtamncbcephalaaaW.PrintWords Go.Proofs.YtamncbcephalaaaW.PrintLast Go.Proofs.YtamncbcephalaaaW.PrintMore
attribute [local go_sem] max2_int min2_int max_two min_two max_three min_three max_four min_four   -- for this text's walks alone
set_option linter.unusedVariables false
set_option linter.unusedSimpArgs false

attribute [local go_sem high] eqA23
/-! ### emulatorlaw42_PipeWaits: function 5 -/
mutual
def emulatorlaw42_PipeWaits.j0 : Nat → Int → ByteArray → Bool → ByteArray → Int → Int → Option (Bool)
  | 0, _, _, _, _, _, _ => none
  | k + 1, x1, x2, x23, x223000, x223001, x223002 => if x23 = true then (some true) else ((pipe_Read.f x223000 x223001 x223002 (wrap64 (x1))).bind fun bt224 => ((pipe_Write.f x223000 x223001 x223002 x2).bind fun bt230 => (if bt224.2.2.2.2 = 20 then (if x223000.toList = ([] : List UInt8) then (if x223002 = 0 then (emulatorlaw42_PipeWaits.j1 k bt224.2.2.2.1 bt224.2.2.2.2 bt230.2.2.2.1 bt230.2.2.2.2 true x223000 x223001 x223002 bt224.1 bt224.2.1 bt224.2.2.1 bt230.1 bt230.2.1 bt230.2.2.1) else (if x223001 = 0 then (emulatorlaw42_PipeWaits.j1 k bt224.2.2.2.1 bt224.2.2.2.2 bt230.2.2.2.1 bt230.2.2.2.2 true x223000 x223001 x223002 bt224.1 bt224.2.1 bt224.2.2.1 bt230.1 bt230.2.1 bt230.2.2.1) else (if bt224.2.2.2.2 = 0 then (if bt224.2.2.2.1.toList = ([] : List UInt8) then (emulatorlaw42_PipeWaits.j1 k bt224.2.2.2.1 bt224.2.2.2.2 bt230.2.2.2.1 bt230.2.2.2.2 (decide (x223002 > 0)) x223000 x223001 x223002 bt224.1 bt224.2.1 bt224.2.2.1 bt230.1 bt230.2.1 bt230.2.2.1) else (emulatorlaw42_PipeWaits.j1 k bt224.2.2.2.1 bt224.2.2.2.2 bt230.2.2.2.1 bt230.2.2.2.2 false x223000 x223001 x223002 bt224.1 bt224.2.1 bt224.2.2.1 bt230.1 bt230.2.1 bt230.2.2.1)) else (emulatorlaw42_PipeWaits.j1 k bt224.2.2.2.1 bt224.2.2.2.2 bt230.2.2.2.1 bt230.2.2.2.2 false x223000 x223001 x223002 bt224.1 bt224.2.1 bt224.2.2.1 bt230.1 bt230.2.1 bt230.2.2.1)))) else (emulatorlaw42_PipeWaits.j1 k bt224.2.2.2.1 bt224.2.2.2.2 bt230.2.2.2.1 bt230.2.2.2.2 true x223000 x223001 x223002 bt224.1 bt224.2.1 bt224.2.2.1 bt230.1 bt230.2.1 bt230.2.2.1)) else (if bt224.2.2.2.2 = 0 then (if bt224.2.2.2.1.toList = ([] : List UInt8) then (if x223000.toList = ([] : List UInt8) then (emulatorlaw42_PipeWaits.j1 k bt224.2.2.2.1 bt224.2.2.2.2 bt230.2.2.2.1 bt230.2.2.2.2 (decide (x223002 > 0)) x223000 x223001 x223002 bt224.1 bt224.2.1 bt224.2.2.1 bt230.1 bt230.2.1 bt230.2.2.1) else (emulatorlaw42_PipeWaits.j1 k bt224.2.2.2.1 bt224.2.2.2.2 bt230.2.2.2.1 bt230.2.2.2.2 true x223000 x223001 x223002 bt224.1 bt224.2.1 bt224.2.2.1 bt230.1 bt230.2.1 bt230.2.2.1)) else (emulatorlaw42_PipeWaits.j1 k bt224.2.2.2.1 bt224.2.2.2.2 bt230.2.2.2.1 bt230.2.2.2.2 false x223000 x223001 x223002 bt224.1 bt224.2.1 bt224.2.2.1 bt230.1 bt230.2.1 bt230.2.2.1)) else (emulatorlaw42_PipeWaits.j1 k bt224.2.2.2.1 bt224.2.2.2.2 bt230.2.2.2.1 bt230.2.2.2.2 false x223000 x223001 x223002 bt224.1 bt224.2.1 bt224.2.2.1 bt230.1 bt230.2.1 bt230.2.2.1)))))
def emulatorlaw42_PipeWaits.j1 : Nat → ByteArray → Int → Int → Int → Bool → ByteArray → Int → Int → ByteArray → Int → Int → ByteArray → Int → Int → Option (Bool)
  | 0, _, _, _, _, _, _, _, _, _, _, _, _, _, _ => none
  | k + 1, x8, x9, x11, x12, x73, x223000, x223001, x223002, x230000, x230001, x230002, x236000, x236001, x236002 => if x73 = true then (some false) else (if x12 = 20 then (if (x223000.size : Int) < 64 then (some false) else (if x223001 = 0 then (some false) else (if x223002 = 0 then (some false) else (if x12 = 0 then (if x11 < 1 then (some false) else (if x9 = 0 then ((emulatorlaw42_alive.f k).bind fun t236 => (some t236)) else (if (x230000.toList == ([] : List UInt8) && (x230001 == 0 && (x230002 == 0))) = true then (if x8.toList = ([] : List UInt8) then ((emulatorlaw42_alive.f k).bind fun t237 => (some t237)) else (some false)) else (some false)))) else (if x9 = 0 then (if (x236000.toList == ([] : List UInt8) && (x236001 == 0 && (x236002 == 0))) = true then (if x11 = 0 then ((emulatorlaw42_alive.f k).bind fun t238 => (some t238)) else (some false)) else (some false)) else (if (x230000.toList == ([] : List UInt8) && (x230001 == 0 && (x230002 == 0))) = true then (if x8.toList = ([] : List UInt8) then (if (x236000.toList == ([] : List UInt8) && (x236001 == 0 && (x236002 == 0))) = true then (if x11 = 0 then ((emulatorlaw42_alive.f k).bind fun t239 => (some t239)) else (some false)) else (some false)) else (some false)) else (some false))))))) else (if x12 = 0 then (if x11 < 1 then (some false) else (if x9 = 0 then ((emulatorlaw42_alive.f k).bind fun t240 => (some t240)) else (if (x230000.toList == ([] : List UInt8) && (x230001 == 0 && (x230002 == 0))) = true then (if x8.toList = ([] : List UInt8) then ((emulatorlaw42_alive.f k).bind fun t241 => (some t241)) else (some false)) else (some false)))) else (if x9 = 0 then (if (x236000.toList == ([] : List UInt8) && (x236001 == 0 && (x236002 == 0))) = true then (if x11 = 0 then ((emulatorlaw42_alive.f k).bind fun t242 => (some t242)) else (some false)) else (some false)) else (if (x230000.toList == ([] : List UInt8) && (x230001 == 0 && (x230002 == 0))) = true then (if x8.toList = ([] : List UInt8) then (if (x236000.toList == ([] : List UInt8) && (x236001 == 0 && (x236002 == 0))) = true then (if x11 = 0 then ((emulatorlaw42_alive.f k).bind fun t243 => (some t243)) else (some false)) else (some false)) else (some false)) else (some false)))))
end
def emulatorlaw42_PipeWaits.f (k : Nat) (a0_0 : ByteArray) (a0_1 : Int) (a0_2 : Int) (a1 : Int) (a2 : ByteArray) : Option (Bool) := (emulatorref42_Right.f a0_0 a0_1 a0_2).bind fun t223 => (if t223 = true then (if a1 = 0 then (emulatorlaw42_PipeWaits.j0 k a1 a2 true a0_0 a0_1 a0_2) else (emulatorlaw42_PipeWaits.j0 k a1 a2 (a2.toList == ([] : List UInt8)) a0_0 a0_1 a0_2)) else (emulatorlaw42_PipeWaits.j0 k a1 a2 true a0_0 a0_1 a0_2))
theorem emulatorlaw42_PipeWaits.mono_l : ∀ k, (∀ y0 y1 y2 y3 y4 y5, LeO (emulatorlaw42_PipeWaits.j0 k y0 y1 y2 y3 y4 y5) (emulatorlaw42_PipeWaits.j0 (k + 1) y0 y1 y2 y3 y4 y5)) ∧ (∀ y0 y1 y2 y3 y4 y5 y6 y7 y8 y9 y10 y11 y12 y13, LeO (emulatorlaw42_PipeWaits.j1 k y0 y1 y2 y3 y4 y5 y6 y7 y8 y9 y10 y11 y12 y13) (emulatorlaw42_PipeWaits.j1 (k + 1) y0 y1 y2 y3 y4 y5 y6 y7 y8 y9 y10 y11 y12 y13))
  | 0 => ⟨fun _ _ _ _ _ _ r h => by simp [emulatorlaw42_PipeWaits.j0] at h, fun _ _ _ _ _ _ _ _ _ _ _ _ _ _ r h => by simp [emulatorlaw42_PipeWaits.j1] at h⟩
  | k + 1 => by
    obtain ⟨ih0, ih1⟩ := emulatorlaw42_PipeWaits.mono_l k
    refine ⟨?_, ?_⟩
    · intro y0 y1 y2 y3 y4 y5
      unfold emulatorlaw42_PipeWaits.j0
      repeat' first
      | (with_reducible exact ih0 _ _ _ _ _ _)
      | (with_reducible exact ih1 _ _ _ _ _ _ _ _ _ _ _ _ _ _)
      | (with_reducible exact emulatorlaw42_alive.mono _)
      | (with_reducible exact LeO.refl _)
      | (with_reducible exact LeO.none _)
      | (with_reducible refine LeO.ite ?_ ?_)
      | (with_reducible refine LeO.bind ?_ (fun _ => ?_))
      | exact ih0 _ _ _ _ _ _
      | exact ih1 _ _ _ _ _ _ _ _ _ _ _ _ _ _
      | exact emulatorlaw42_alive.mono _
      | exact LeO.none _
      | refine LeO.ite ?_ ?_
      | refine LeO.bind ?_ (fun _ => ?_)
    · intro y0 y1 y2 y3 y4 y5 y6 y7 y8 y9 y10 y11 y12 y13
      unfold emulatorlaw42_PipeWaits.j1
      repeat' first
      | (with_reducible exact ih0 _ _ _ _ _ _)
      | (with_reducible exact ih1 _ _ _ _ _ _ _ _ _ _ _ _ _ _)
      | (with_reducible exact emulatorlaw42_alive.mono _)
      | (with_reducible exact LeO.refl _)
      | (with_reducible exact LeO.none _)
      | (with_reducible refine LeO.ite ?_ ?_)
      | (with_reducible refine LeO.bind ?_ (fun _ => ?_))
      | exact ih0 _ _ _ _ _ _
      | exact ih1 _ _ _ _ _ _ _ _ _ _ _ _ _ _
      | exact emulatorlaw42_alive.mono _
      | exact LeO.none _
      | refine LeO.ite ?_ ?_
      | refine LeO.bind ?_ (fun _ => ?_)
theorem emulatorlaw42_PipeWaits.mono : ∀ a0 a1 a2 a3 a4 k, LeO (emulatorlaw42_PipeWaits.f k a0 a1 a2 a3 a4) (emulatorlaw42_PipeWaits.f (k + 1) a0 a1 a2 a3 a4) := by
  intro a0 a1 a2 a3 a4 k
  obtain ⟨ih0, ih1⟩ := emulatorlaw42_PipeWaits.mono_l k
  unfold emulatorlaw42_PipeWaits.f
  repeat' first
      | (with_reducible exact ih0 _ _ _ _ _ _)
      | (with_reducible exact ih1 _ _ _ _ _ _ _ _ _ _ _ _ _ _)
      | (with_reducible exact emulatorlaw42_alive.mono _)
      | (with_reducible exact LeO.refl _)
      | (with_reducible exact LeO.none _)
      | (with_reducible refine LeO.ite ?_ ?_)
      | (with_reducible refine LeO.bind ?_ (fun _ => ?_))
      | exact ih0 _ _ _ _ _ _
      | exact ih1 _ _ _ _ _ _ _ _ _ _ _ _ _ _
      | exact emulatorlaw42_alive.mono _
      | exact LeO.none _
      | refine LeO.ite ?_ ?_
      | refine LeO.bind ?_ (fun _ => ?_)
set_option maxHeartbeats 8000000 in
set_option maxRecDepth 100000 in
theorem emulatorlaw42_PipeWaits.calls (k : Nat) (a0_0 : ByteArray) (a0_1 : Int) (a0_2 : Int) (a1 : Int) (a2 : ByteArray) (r : Bool) (w : World) (h : emulatorlaw42_PipeWaits.f k a0_0 a0_1 a0_2 a1 a2 = some r) (hr0 : r = true) :
    Calls Try.prog 5 #[.agg #[.string a0_0, .int .i64 a0_1, .int .i64 a0_2], .int .u8 a1, .string a2] w fun e w' => e = .returned (.bool r) ∧ Below w.heap.size w w' := by
  have hu23 := Try.underlying23
  have hr_ := Aside0.mk hr0
  clear hr0
  have HB := Aside0.mk (Below.refl w.heap.size w)
  have H : ((emulatorref42_Right.f a0_0 a0_1 a0_2).bind fun t223 => (if t223 = true then (if a1 = 0 then (emulatorlaw42_PipeWaits.j0 k a1 a2 true a0_0 a0_1 a0_2) else (emulatorlaw42_PipeWaits.j0 k a1 a2 (a2.toList == ([] : List UInt8)) a0_0 a0_1 a0_2)) else (emulatorlaw42_PipeWaits.j0 k a1 a2 true a0_0 a0_1 a0_2))) = some r := h
  clear h
  have HC4 := Aside0.mk H
  clear H
  go_enter Try.func5, Try.ntmps5
  go_upto_region 1 with (first | ((with_reducible refine gate_dst (N := 3) rfl ?_); (try (refine gate_guard (by rfl) ?_; dsimp only)); refine box_event ?hg (N := 3) ?hd (cs := #[.string a0_0, .int .i64 a0_1, .int .i64 a0_2]) (t := 23) ?hr ?_; (case hd => rfl); (case hg => rfl); (case hr => first | (go_simp; done) | (go_simp; rfl)); intro gb222 hg w5 hbox hb; have n0_ := Aside0.mk (below_step (by repeat (first | (with_reducible first | exact HB.out | apply below_alloc | apply pw_below_drewN | apply below_drew1) | exact HB.out)) hb); have n1_ := Aside0.mk (hbox); have n2_ := Aside0.mk ((by rw [hg]; exact (below_size (by repeat (first | (with_reducible first | exact HB.out | apply below_alloc | apply pw_below_drewN | apply below_drew1) | exact HB.out))) : w.heap.size ≤ gb222)); have n3_ := Aside0.mk ((by rw [hg]; exact (below_size (by repeat (first | (with_reducible first | exact HB.out | apply below_alloc | apply pw_below_drewN | apply below_drew1) | exact HB.out))) : w.heap.size ≤ gb222)); clear HB; have HB := n0_; have BK222 := n1_; have GW222 := n2_; have GE222 := n3_; clear n0_ n1_ n2_ n3_; clear hb hbox hg))
  (try simp only [Act.put, List.setIfInBounds_toArray, List.set_cons_zero, List.set_cons_succ])
  go_cut [23] (fun v23 wc => ∃ (kq : Nat) (x23_3 : Bool), v23 = .bool x23_3 ∧ Aside0 (emulatorlaw42_PipeWaits.j0 kq a1 a2 x23_3 a0_0 a0_1 a0_2 = some r) ∧ Aside0 (kq ≤ k) ∧ Aside0 (wc.heap[gb222]? = some (.cells #[.string a0_0, .int .i64 a0_1, .int .i64 a0_2] 23 (0, 0))) ∧ Aside0 (Below w.heap.size w wc))
  case first =>
    have H := HC4.out
    clear HC4
    replace H := Option.bind_eq_some_iff.mp H
    obtain ⟨t223, A60, H⟩ := H
    replace H : (if t223 = true then (if a1 = 0 then (emulatorlaw42_PipeWaits.j0 k a1 a2 true a0_0 a0_1 a0_2) else (emulatorlaw42_PipeWaits.j0 k a1 a2 (a2.toList == ([] : List UInt8)) a0_0 a0_1 a0_2)) else (emulatorlaw42_PipeWaits.j0 k a1 a2 true a0_0 a0_1 a0_2)) = some r := H
    have A6 := Aside0.mk A60
    clear A60
    by_cases c7 : t223 = true
    · subst c7
      have H1 : (if a1 = 0 then (emulatorlaw42_PipeWaits.j0 k a1 a2 true a0_0 a0_1 a0_2) else (emulatorlaw42_PipeWaits.j0 k a1 a2 (a2.toList == ([] : List UInt8)) a0_0 a0_1 a0_2)) = some r := by rw [if_pos rfl] at H; exact H
      clear H
      have H := H1
      clear H1
      by_cases c8 : a1 = 0
      · rw [if_pos c8] at H
        have c8b0 : (a1 == 0) = true := beq_iff_eq.mpr c8
        have c8b1 : (a1 != 0) = false := bne_eq_false_iff_eq.mpr c8
        clear c8
        (first | rw [c8b0] | (simp only [i64_w, i32_w]; rw [c8b0]) | skip)
        have H' := Aside0.mk H
        clear H
        have hcz9_0 : w5.cell? ⟨gb222, 0, none⟩ = some (.string a0_0) := (blk_cell BK222.out 0).trans rfl
        have hcz9_1 : w5.cell? ⟨gb222, 1, none⟩ = some (.int .i64 a0_1) := (blk_cell BK222.out 1).trans rfl
        have hcz9_2 : w5.cell? ⟨gb222, 2, none⟩ = some (.int .i64 a0_2) := (blk_cell BK222.out 2).trans rfl
        have hfz9_0 := blk_frozen BK222.out 0
        have hfz9_1 := blk_frozen BK222.out 1
        have hfz9_2 := blk_frozen BK222.out 2
        go_wp2_with (first | ((with_reducible refine gate_callee (f := 10) rfl ?_); refine goesL_ (some 14) rfl rfl Try.func10 (by kernel_rfl) rfl #[.agg #[.string a0_0, .int .i64 a0_1, .int .i64 a0_2]] rfl (by (try simp only [List.map_toArray, List.map_cons, List.map_nil]); first | done | rfl | (simp only [List.length_drop, List.length_take]; rfl)) ?_; (with_reducible refine (emulatorref42_Right.calls a0_0 a0_1 a0_2 true _ A6.out).mono ?_); rintro e w10 ⟨rfl, hb⟩; refine ⟨_, rfl, ?_⟩; have n0_ := Aside0.mk (blk_below (g := gb222) (o := .cells #[.string a0_0, .int .i64 a0_1, .int .i64 a0_2] 23 (0, 0)) (by (with_reducible repeat (first | refine blk_drewN ?_ _ | refine blk_drew ?_ | refine blk_alloc ?_ _)); exact BK222.out) hb); have n1_ := Aside0.mk (below_step (by repeat (first | (with_reducible first | exact HB.out | apply below_alloc | apply pw_below_drewN | apply below_drew1 | refine below_set ?_ GE222.out) | exact HB.out)) hb); clear BK222; clear HB; have BK222 := n0_; have HB := n1_; clear n0_ n1_; (try clear hb); (try clear hb2); (try clear hk); (try clear hi)))
        go_meet
        case rel => exact ⟨_, (true), (by first | rfl | (simp; done) | (simp [*]; done)), H', ⟨by first | omega | exact Nat.le_refl _⟩, ⟨by (with_reducible repeat (first | refine blk_drewN ?_ _ | refine blk_drew ?_ | refine blk_alloc ?_ _)); exact BK222.out⟩, ⟨by repeat (first | (with_reducible first | exact HB.out | apply below_alloc | apply pw_below_drewN | apply below_drew1 | refine below_set ?_ GE222.out) | exact HB.out)⟩⟩
      · rw [if_neg c8] at H
        have c8b0 : (a1 == 0) = false := beq_eq_false_iff_ne.mpr c8
        have c8b1 : (a1 != 0) = true := bne_iff_ne.mpr c8
        (first | rw [c8b0] | (simp only [i64_w, i32_w]; rw [c8b0]) | skip)
        have H' := Aside0.mk H
        clear H
        have hcz11_0 : w5.cell? ⟨gb222, 0, none⟩ = some (.string a0_0) := (blk_cell BK222.out 0).trans rfl
        have hcz11_1 : w5.cell? ⟨gb222, 1, none⟩ = some (.int .i64 a0_1) := (blk_cell BK222.out 1).trans rfl
        have hcz11_2 : w5.cell? ⟨gb222, 2, none⟩ = some (.int .i64 a0_2) := (blk_cell BK222.out 2).trans rfl
        have hfz11_0 := blk_frozen BK222.out 0
        have hfz11_1 := blk_frozen BK222.out 1
        have hfz11_2 := blk_frozen BK222.out 2
        go_wp2_with (first | ((with_reducible refine gate_callee (f := 10) rfl ?_); refine goesL_ (some 14) rfl rfl Try.func10 (by kernel_rfl) rfl #[.agg #[.string a0_0, .int .i64 a0_1, .int .i64 a0_2]] rfl (by (try simp only [List.map_toArray, List.map_cons, List.map_nil]); first | done | rfl | (simp only [List.length_drop, List.length_take]; rfl)) ?_; (with_reducible refine (emulatorref42_Right.calls a0_0 a0_1 a0_2 true _ A6.out).mono ?_); rintro e w12 ⟨rfl, hb⟩; refine ⟨_, rfl, ?_⟩; have n0_ := Aside0.mk (blk_below (g := gb222) (o := .cells #[.string a0_0, .int .i64 a0_1, .int .i64 a0_2] 23 (0, 0)) (by (with_reducible repeat (first | refine blk_drewN ?_ _ | refine blk_drew ?_ | refine blk_alloc ?_ _)); exact BK222.out) hb); have n1_ := Aside0.mk (below_step (by repeat (first | (with_reducible first | exact HB.out | apply below_alloc | apply pw_below_drewN | apply below_drew1 | refine below_set ?_ GE222.out) | exact HB.out)) hb); clear BK222; clear HB; have BK222 := n0_; have HB := n1_; clear n0_ n1_; (try clear hb); (try clear hb2); (try clear hk); (try clear hi)))
        go_meet
        case rel => exact ⟨_, ((a2.toList == ([] : List UInt8))), (by first | rfl | (simp; done) | (simp [*]; done)), H', ⟨by first | omega | exact Nat.le_refl _⟩, ⟨by (with_reducible repeat (first | refine blk_drewN ?_ _ | refine blk_drew ?_ | refine blk_alloc ?_ _)); exact BK222.out⟩, ⟨by repeat (first | (with_reducible first | exact HB.out | apply below_alloc | apply pw_below_drewN | apply below_drew1 | refine below_set ?_ GE222.out) | exact HB.out)⟩⟩
    · replace c7 := Bool.eq_false_iff.mpr c7
      subst c7
      have H1 : (emulatorlaw42_PipeWaits.j0 k a1 a2 true a0_0 a0_1 a0_2) = some r := by rw [if_neg (show ¬ (false = true) by decide)] at H; exact H
      clear H
      have H := H1
      clear H1
      have H' := Aside0.mk H
      clear H
      have hcz13_0 : w5.cell? ⟨gb222, 0, none⟩ = some (.string a0_0) := (blk_cell BK222.out 0).trans rfl
      have hcz13_1 : w5.cell? ⟨gb222, 1, none⟩ = some (.int .i64 a0_1) := (blk_cell BK222.out 1).trans rfl
      have hcz13_2 : w5.cell? ⟨gb222, 2, none⟩ = some (.int .i64 a0_2) := (blk_cell BK222.out 2).trans rfl
      have hfz13_0 := blk_frozen BK222.out 0
      have hfz13_1 := blk_frozen BK222.out 1
      have hfz13_2 := blk_frozen BK222.out 2
      go_wp2_with (first | ((with_reducible refine gate_callee (f := 10) rfl ?_); refine goesL_ (some 14) rfl rfl Try.func10 (by kernel_rfl) rfl #[.agg #[.string a0_0, .int .i64 a0_1, .int .i64 a0_2]] rfl (by (try simp only [List.map_toArray, List.map_cons, List.map_nil]); first | done | rfl | (simp only [List.length_drop, List.length_take]; rfl)) ?_; (with_reducible refine (emulatorref42_Right.calls a0_0 a0_1 a0_2 false _ A6.out).mono ?_); rintro e w14 ⟨rfl, hb⟩; refine ⟨_, rfl, ?_⟩; have n0_ := Aside0.mk (blk_below (g := gb222) (o := .cells #[.string a0_0, .int .i64 a0_1, .int .i64 a0_2] 23 (0, 0)) (by (with_reducible repeat (first | refine blk_drewN ?_ _ | refine blk_drew ?_ | refine blk_alloc ?_ _)); exact BK222.out) hb); have n1_ := Aside0.mk (below_step (by repeat (first | (with_reducible first | exact HB.out | apply below_alloc | apply pw_below_drewN | apply below_drew1 | refine below_set ?_ GE222.out) | exact HB.out)) hb); clear BK222; clear HB; have BK222 := n0_; have HB := n1_; clear n0_ n1_; (try clear hb); (try clear hb2); (try clear hk); (try clear hi)))
      go_meet
      case rel => exact ⟨_, (true), (by first | rfl | (simp; done) | (simp [*]; done)), H', ⟨by first | omega | exact Nat.le_refl _⟩, ⟨by (with_reducible repeat (first | refine blk_drewN ?_ _ | refine blk_drew ?_ | refine blk_alloc ?_ _)); exact BK222.out⟩, ⟨by repeat (first | (with_reducible first | exact HB.out | apply below_alloc | apply pw_below_drewN | apply below_drew1 | refine below_set ?_ GE222.out) | exact HB.out)⟩⟩
  case rest =>
    clear HC4
    try clear c1
    try clear p2
    try clear c5
    try clear c7
    try clear c8
    try clear c8b0
    try clear c8b1
    try clear c10
    try clear hcz11_0
    try clear hcz11_1
    try clear hcz11_2
    try clear hcz13_0
    try clear hcz13_1
    try clear hcz13_2
    try clear hcz9_0
    try clear hcz9_1
    try clear hcz9_2
    try clear hfz11_0
    try clear hfz11_1
    try clear hfz11_2
    try clear hfz13_0
    try clear hfz13_1
    try clear hfz13_2
    try clear hfz9_0
    try clear hfz9_1
    try clear hfz9_2
    obtain ⟨kq, x23_3, rfl, HA, HJ3, BK222, HB⟩ := hcut
    cases kq with
    | zero => exact absurd HA.out (by simp [emulatorlaw42_PipeWaits.j0])
    | succ kj3 =>
      have H := HA.out
      clear HA
      simp only [emulatorlaw42_PipeWaits.j0] at H
      by_cases c15 : x23_3 = true
      · subst c15
        have H1 : (some true) = some r := by rw [if_pos rfl] at H; exact H
        clear H
        have H := H1
        clear H1
        obtain rfl := Option.some.inj H
        go_wp2
        go_ret
        exact ⟨by first | rfl | (simp [errW_none, errW_some] <;> rfl) | (simp [*, errW_none, errW_some] <;> rfl), by repeat (first | (with_reducible first | exact HB.out | apply below_alloc | apply pw_below_drewN | apply below_drew1 | refine below_set ?_ GE222.out) | exact HB.out)⟩
      · replace c15 := Bool.eq_false_iff.mpr c15
        subst c15
        have H1 : ((pipe_Read.f a0_0 a0_1 a0_2 (wrap64 (a1))).bind fun bt224 => ((pipe_Write.f a0_0 a0_1 a0_2 a2).bind fun bt230 => (if bt224.2.2.2.2 = 20 then (if a0_0.toList = ([] : List UInt8) then (if a0_2 = 0 then (emulatorlaw42_PipeWaits.j1 kj3 bt224.2.2.2.1 bt224.2.2.2.2 bt230.2.2.2.1 bt230.2.2.2.2 true a0_0 a0_1 a0_2 bt224.1 bt224.2.1 bt224.2.2.1 bt230.1 bt230.2.1 bt230.2.2.1) else (if a0_1 = 0 then (emulatorlaw42_PipeWaits.j1 kj3 bt224.2.2.2.1 bt224.2.2.2.2 bt230.2.2.2.1 bt230.2.2.2.2 true a0_0 a0_1 a0_2 bt224.1 bt224.2.1 bt224.2.2.1 bt230.1 bt230.2.1 bt230.2.2.1) else (if bt224.2.2.2.2 = 0 then (if bt224.2.2.2.1.toList = ([] : List UInt8) then (emulatorlaw42_PipeWaits.j1 kj3 bt224.2.2.2.1 bt224.2.2.2.2 bt230.2.2.2.1 bt230.2.2.2.2 (decide (a0_2 > 0)) a0_0 a0_1 a0_2 bt224.1 bt224.2.1 bt224.2.2.1 bt230.1 bt230.2.1 bt230.2.2.1) else (emulatorlaw42_PipeWaits.j1 kj3 bt224.2.2.2.1 bt224.2.2.2.2 bt230.2.2.2.1 bt230.2.2.2.2 false a0_0 a0_1 a0_2 bt224.1 bt224.2.1 bt224.2.2.1 bt230.1 bt230.2.1 bt230.2.2.1)) else (emulatorlaw42_PipeWaits.j1 kj3 bt224.2.2.2.1 bt224.2.2.2.2 bt230.2.2.2.1 bt230.2.2.2.2 false a0_0 a0_1 a0_2 bt224.1 bt224.2.1 bt224.2.2.1 bt230.1 bt230.2.1 bt230.2.2.1)))) else (emulatorlaw42_PipeWaits.j1 kj3 bt224.2.2.2.1 bt224.2.2.2.2 bt230.2.2.2.1 bt230.2.2.2.2 true a0_0 a0_1 a0_2 bt224.1 bt224.2.1 bt224.2.2.1 bt230.1 bt230.2.1 bt230.2.2.1)) else (if bt224.2.2.2.2 = 0 then (if bt224.2.2.2.1.toList = ([] : List UInt8) then (if a0_0.toList = ([] : List UInt8) then (emulatorlaw42_PipeWaits.j1 kj3 bt224.2.2.2.1 bt224.2.2.2.2 bt230.2.2.2.1 bt230.2.2.2.2 (decide (a0_2 > 0)) a0_0 a0_1 a0_2 bt224.1 bt224.2.1 bt224.2.2.1 bt230.1 bt230.2.1 bt230.2.2.1) else (emulatorlaw42_PipeWaits.j1 kj3 bt224.2.2.2.1 bt224.2.2.2.2 bt230.2.2.2.1 bt230.2.2.2.2 true a0_0 a0_1 a0_2 bt224.1 bt224.2.1 bt224.2.2.1 bt230.1 bt230.2.1 bt230.2.2.1)) else (emulatorlaw42_PipeWaits.j1 kj3 bt224.2.2.2.1 bt224.2.2.2.2 bt230.2.2.2.1 bt230.2.2.2.2 false a0_0 a0_1 a0_2 bt224.1 bt224.2.1 bt224.2.2.1 bt230.1 bt230.2.1 bt230.2.2.1)) else (emulatorlaw42_PipeWaits.j1 kj3 bt224.2.2.2.1 bt224.2.2.2.2 bt230.2.2.2.1 bt230.2.2.2.2 false a0_0 a0_1 a0_2 bt224.1 bt224.2.1 bt224.2.2.1 bt230.1 bt230.2.1 bt230.2.2.1))))) = some r := by rw [if_neg (show ¬ (false = true) by decide)] at H; exact H
        clear H
        have H := H1
        clear H1
        replace H := Option.bind_eq_some_iff.mp H
        obtain ⟨⟨t224, t225, t226, t227, t228⟩, A160, H⟩ := H
        replace H : ((pipe_Write.f a0_0 a0_1 a0_2 a2).bind fun bt230 => (if t228 = 20 then (if a0_0.toList = ([] : List UInt8) then (if a0_2 = 0 then (emulatorlaw42_PipeWaits.j1 kj3 t227 t228 bt230.2.2.2.1 bt230.2.2.2.2 true a0_0 a0_1 a0_2 t224 t225 t226 bt230.1 bt230.2.1 bt230.2.2.1) else (if a0_1 = 0 then (emulatorlaw42_PipeWaits.j1 kj3 t227 t228 bt230.2.2.2.1 bt230.2.2.2.2 true a0_0 a0_1 a0_2 t224 t225 t226 bt230.1 bt230.2.1 bt230.2.2.1) else (if t228 = 0 then (if t227.toList = ([] : List UInt8) then (emulatorlaw42_PipeWaits.j1 kj3 t227 t228 bt230.2.2.2.1 bt230.2.2.2.2 (decide (a0_2 > 0)) a0_0 a0_1 a0_2 t224 t225 t226 bt230.1 bt230.2.1 bt230.2.2.1) else (emulatorlaw42_PipeWaits.j1 kj3 t227 t228 bt230.2.2.2.1 bt230.2.2.2.2 false a0_0 a0_1 a0_2 t224 t225 t226 bt230.1 bt230.2.1 bt230.2.2.1)) else (emulatorlaw42_PipeWaits.j1 kj3 t227 t228 bt230.2.2.2.1 bt230.2.2.2.2 false a0_0 a0_1 a0_2 t224 t225 t226 bt230.1 bt230.2.1 bt230.2.2.1)))) else (emulatorlaw42_PipeWaits.j1 kj3 t227 t228 bt230.2.2.2.1 bt230.2.2.2.2 true a0_0 a0_1 a0_2 t224 t225 t226 bt230.1 bt230.2.1 bt230.2.2.1)) else (if t228 = 0 then (if t227.toList = ([] : List UInt8) then (if a0_0.toList = ([] : List UInt8) then (emulatorlaw42_PipeWaits.j1 kj3 t227 t228 bt230.2.2.2.1 bt230.2.2.2.2 (decide (a0_2 > 0)) a0_0 a0_1 a0_2 t224 t225 t226 bt230.1 bt230.2.1 bt230.2.2.1) else (emulatorlaw42_PipeWaits.j1 kj3 t227 t228 bt230.2.2.2.1 bt230.2.2.2.2 true a0_0 a0_1 a0_2 t224 t225 t226 bt230.1 bt230.2.1 bt230.2.2.1)) else (emulatorlaw42_PipeWaits.j1 kj3 t227 t228 bt230.2.2.2.1 bt230.2.2.2.2 false a0_0 a0_1 a0_2 t224 t225 t226 bt230.1 bt230.2.1 bt230.2.2.1)) else (emulatorlaw42_PipeWaits.j1 kj3 t227 t228 bt230.2.2.2.1 bt230.2.2.2.2 false a0_0 a0_1 a0_2 t224 t225 t226 bt230.1 bt230.2.1 bt230.2.2.1)))) = some r := H
        have A16 := Aside0.mk A160
        clear A160
        replace H := Option.bind_eq_some_iff.mp H
        obtain ⟨⟨t230, t231, t232, t233, t234⟩, A170, H⟩ := H
        replace H : (if t228 = 20 then (if a0_0.toList = ([] : List UInt8) then (if a0_2 = 0 then (emulatorlaw42_PipeWaits.j1 kj3 t227 t228 t233 t234 true a0_0 a0_1 a0_2 t224 t225 t226 t230 t231 t232) else (if a0_1 = 0 then (emulatorlaw42_PipeWaits.j1 kj3 t227 t228 t233 t234 true a0_0 a0_1 a0_2 t224 t225 t226 t230 t231 t232) else (if t228 = 0 then (if t227.toList = ([] : List UInt8) then (emulatorlaw42_PipeWaits.j1 kj3 t227 t228 t233 t234 (decide (a0_2 > 0)) a0_0 a0_1 a0_2 t224 t225 t226 t230 t231 t232) else (emulatorlaw42_PipeWaits.j1 kj3 t227 t228 t233 t234 false a0_0 a0_1 a0_2 t224 t225 t226 t230 t231 t232)) else (emulatorlaw42_PipeWaits.j1 kj3 t227 t228 t233 t234 false a0_0 a0_1 a0_2 t224 t225 t226 t230 t231 t232)))) else (emulatorlaw42_PipeWaits.j1 kj3 t227 t228 t233 t234 true a0_0 a0_1 a0_2 t224 t225 t226 t230 t231 t232)) else (if t228 = 0 then (if t227.toList = ([] : List UInt8) then (if a0_0.toList = ([] : List UInt8) then (emulatorlaw42_PipeWaits.j1 kj3 t227 t228 t233 t234 (decide (a0_2 > 0)) a0_0 a0_1 a0_2 t224 t225 t226 t230 t231 t232) else (emulatorlaw42_PipeWaits.j1 kj3 t227 t228 t233 t234 true a0_0 a0_1 a0_2 t224 t225 t226 t230 t231 t232)) else (emulatorlaw42_PipeWaits.j1 kj3 t227 t228 t233 t234 false a0_0 a0_1 a0_2 t224 t225 t226 t230 t231 t232)) else (emulatorlaw42_PipeWaits.j1 kj3 t227 t228 t233 t234 false a0_0 a0_1 a0_2 t224 t225 t226 t230 t231 t232))) = some r := H
        have A17 := Aside0.mk A170
        clear A170
        have HC18 := Aside0.mk H
        clear H
        have hcz19_0 : wc.cell? ⟨gb222, 0, none⟩ = some (.string a0_0) := (blk_cell BK222.out 0).trans rfl
        have hcz19_1 : wc.cell? ⟨gb222, 1, none⟩ = some (.int .i64 a0_1) := (blk_cell BK222.out 1).trans rfl
        have hcz19_2 : wc.cell? ⟨gb222, 2, none⟩ = some (.int .i64 a0_2) := (blk_cell BK222.out 2).trans rfl
        have hfz19_0 := blk_frozen BK222.out 0
        have hfz19_1 := blk_frozen BK222.out 1
        have hfz19_2 := blk_frozen BK222.out 2
        go_upto_region 5 with (first | ((with_reducible refine gate_callee (f := 14) rfl ?_); refine goesL_ (some 28) rfl rfl Try.func14 (by kernel_rfl) rfl #[.agg #[.string a0_0, .int .i64 a0_1, .int .i64 a0_2], .int .i64 (wrap64 (a1))] rfl (by (try simp only [List.map_toArray, List.map_cons, List.map_nil]); first | done | rfl | (simp only [List.length_drop, List.length_take]; rfl)) ?_; (with_reducible refine (pipe_Read.calls a0_0 a0_1 a0_2 (wrap64 (a1)) t224 t225 t226 t227 t228 _ A16.out).mono ?_); rintro e w20 ⟨rfl, hb⟩; refine ⟨_, rfl, ?_⟩; have n0_ := Aside0.mk (blk_below (g := gb222) (o := .cells #[.string a0_0, .int .i64 a0_1, .int .i64 a0_2] 23 (0, 0)) (by (with_reducible repeat (first | refine blk_drewN ?_ _ | refine blk_drew ?_ | refine blk_alloc ?_ _)); exact BK222.out) hb); have n1_ := Aside0.mk (below_step (by repeat (first | (with_reducible first | exact HB.out | apply below_alloc | apply pw_below_drewN | apply below_drew1 | refine below_set ?_ GE222.out) | exact HB.out)) hb); clear BK222; clear HB; have BK222 := n0_; have HB := n1_; clear n0_ n1_; (try clear hb); (try clear hb2); (try clear hk); (try clear hi)) | ((with_reducible refine gate_dst (N := 7) rfl ?_); (try (refine gate_guard (by rfl) ?_; dsimp only)); refine box_event ?hg (N := 7) ?hd (cs := #[.string (⟨#[]⟩ : ByteArray), .int .i64 0, .int .i64 0]) (t := 23) ?hr ?_; (case hd => rfl); (case hg => rfl); (case hr => first | (go_simp; done) | (go_simp; rfl)); intro gb229 hg w21 hbox hb; have n0_ := Aside0.mk (blk_below (g := gb222) (o := .cells #[.string a0_0, .int .i64 a0_1, .int .i64 a0_2] 23 (0, 0)) (by (with_reducible repeat (first | refine blk_drewN ?_ _ | refine blk_drew ?_ | refine blk_alloc ?_ _)); exact BK222.out) hb); have n1_ := Aside0.mk (below_step (by repeat (first | (with_reducible first | exact HB.out | apply below_alloc | apply pw_below_drewN | apply below_drew1 | refine below_set ?_ GE222.out) | exact HB.out)) hb); have n2_ := Aside0.mk (hbox); have n3_ := Aside0.mk ((by rw [hg]; exact (below_size (by repeat (first | (with_reducible first | exact HB.out | apply below_alloc | apply pw_below_drewN | apply below_drew1 | refine below_set ?_ GE222.out) | exact HB.out))) : w.heap.size ≤ gb229)); have n4_ := Aside0.mk ((by rw [hg]; exact (below_size (by repeat (first | (with_reducible first | exact HB.out | apply below_alloc | apply pw_below_drewN | apply below_drew1 | refine below_set ?_ GE222.out) | exact HB.out))) : w.heap.size ≤ gb229)); have n5_ := Aside0.mk ((by rw [hg]; exact Nat.ne_of_lt (blk_lt (g := gb222) (o := .cells #[.string a0_0, .int .i64 a0_1, .int .i64 a0_2] 23 (0, 0)) (by (with_reducible repeat (first | refine blk_drewN ?_ _ | refine blk_drew ?_ | refine blk_alloc ?_ _)); exact BK222.out)) : gb222 ≠ gb229)); have n6_ := Aside0.mk ((by rw [hg]; exact Nat.ne_of_gt (blk_lt (g := gb222) (o := .cells #[.string a0_0, .int .i64 a0_1, .int .i64 a0_2] 23 (0, 0)) (by (with_reducible repeat (first | refine blk_drewN ?_ _ | refine blk_drew ?_ | refine blk_alloc ?_ _)); exact BK222.out)) : gb229 ≠ gb222)); clear BK222; clear HB; have BK222 := n0_; have HB := n1_; have BK229 := n2_; have GW229 := n3_; have GE229 := n4_; have NB222_229 := n5_; have NB229_222 := n6_; clear n0_ n1_ n2_ n3_ n4_ n5_ n6_; clear hb hbox hg; have hnb22 := NB229_222.out; have hnc22 := NB222_229.out; have hcz23_0 : w21.cell? ⟨gb229, 0, none⟩ = some (.string (⟨#[]⟩ : ByteArray)) := (blk_cell BK229.out 0).trans rfl; have hcz23_1 : w21.cell? ⟨gb229, 1, none⟩ = some (.int .i64 0) := (blk_cell BK229.out 1).trans rfl; have hcz23_2 : w21.cell? ⟨gb229, 2, none⟩ = some (.int .i64 0) := (blk_cell BK229.out 2).trans rfl; have hfz23_0 := blk_frozen BK229.out 0; have hfz23_1 := blk_frozen BK229.out 1; have hfz23_2 := blk_frozen BK229.out 2; have hcz24_0 : w21.cell? ⟨gb222, 0, none⟩ = some (.string a0_0) := (blk_cell BK222.out 0).trans rfl; have hcz24_1 : w21.cell? ⟨gb222, 1, none⟩ = some (.int .i64 a0_1) := (blk_cell BK222.out 1).trans rfl; have hcz24_2 : w21.cell? ⟨gb222, 2, none⟩ = some (.int .i64 a0_2) := (blk_cell BK222.out 2).trans rfl; have hfz24_0 := blk_frozen BK222.out 0; have hfz24_1 := blk_frozen BK222.out 1; have hfz24_2 := blk_frozen BK222.out 2) | ((with_reducible refine gate_callee (f := 16) rfl ?_); refine goesL_ (some 35) rfl rfl Try.func16 (by kernel_rfl) rfl #[.agg #[.string a0_0, .int .i64 a0_1, .int .i64 a0_2], .string a2] rfl (by (try simp only [List.map_toArray, List.map_cons, List.map_nil]); first | done | rfl | (simp only [List.length_drop, List.length_take]; rfl)) ?_; (with_reducible refine (pipe_Write.calls a0_0 a0_1 a0_2 a2 t230 t231 t232 t233 t234 _ A17.out).mono ?_); rintro e w25 ⟨rfl, hb⟩; refine ⟨_, rfl, ?_⟩; have n0_ := Aside0.mk (blk_below (g := gb222) (o := .cells #[.string a0_0, .int .i64 a0_1, .int .i64 a0_2] 23 (0, 0)) (by (with_reducible repeat (first | refine blk_drewN ?_ _ | refine blk_drew ?_ | refine blk_alloc ?_ _)); refine blk_far ?_ NB222_229.out _; (with_reducible repeat (first | refine blk_drewN ?_ _ | refine blk_drew ?_ | refine blk_alloc ?_ _)); refine blk_far ?_ NB222_229.out _; (with_reducible repeat (first | refine blk_drewN ?_ _ | refine blk_drew ?_ | refine blk_alloc ?_ _)); refine blk_far ?_ NB222_229.out _; (with_reducible repeat (first | refine blk_drewN ?_ _ | refine blk_drew ?_ | refine blk_alloc ?_ _)); exact BK222.out) hb); have n1_ := Aside0.mk (blk_below (g := gb229) (o := .cells #[.string t224, .int .i64 t225, .int .i64 t226] 23 (0, 0)) (by (with_reducible repeat (first | refine blk_drewN ?_ _ | refine blk_drew ?_ | refine blk_alloc ?_ _)); refine blk_put (cs := #[.string t224, .int .i64 t225, .int .i64 0]) ?_ 2 _ rfl; (with_reducible repeat (first | refine blk_drewN ?_ _ | refine blk_drew ?_ | refine blk_alloc ?_ _)); refine blk_put (cs := #[.string t224, .int .i64 0, .int .i64 0]) ?_ 1 _ rfl; (with_reducible repeat (first | refine blk_drewN ?_ _ | refine blk_drew ?_ | refine blk_alloc ?_ _)); refine blk_put (cs := #[.string (⟨#[]⟩ : ByteArray), .int .i64 0, .int .i64 0]) ?_ 0 _ rfl; (with_reducible repeat (first | refine blk_drewN ?_ _ | refine blk_drew ?_ | refine blk_alloc ?_ _)); exact BK229.out) hb); have n2_ := Aside0.mk (below_step (by repeat (first | (with_reducible first | exact HB.out | apply below_alloc | apply pw_below_drewN | apply below_drew1 | refine below_set ?_ GE222.out | refine below_set ?_ GE229.out) | exact HB.out)) hb); clear BK222; clear BK229; clear HB; have BK222 := n0_; have BK229 := n1_; have HB := n2_; clear n0_ n1_ n2_; (try clear hb); (try clear hb2); (try clear hk); (try clear hi)) | ((with_reducible refine gate_dst (N := 10) rfl ?_); (try (refine gate_guard (by rfl) ?_; dsimp only)); refine box_event ?hg (N := 10) ?hd (cs := #[.string (⟨#[]⟩ : ByteArray), .int .i64 0, .int .i64 0]) (t := 23) ?hr ?_; (case hd => rfl); (case hg => rfl); (case hr => first | (go_simp; done) | (go_simp; rfl)); intro gb235 hg w26 hbox hb; have n0_ := Aside0.mk (blk_below (g := gb222) (o := .cells #[.string a0_0, .int .i64 a0_1, .int .i64 a0_2] 23 (0, 0)) (by (with_reducible repeat (first | refine blk_drewN ?_ _ | refine blk_drew ?_ | refine blk_alloc ?_ _)); exact BK222.out) hb); have n1_ := Aside0.mk (blk_below (g := gb229) (o := .cells #[.string t224, .int .i64 t225, .int .i64 t226] 23 (0, 0)) (by (with_reducible repeat (first | refine blk_drewN ?_ _ | refine blk_drew ?_ | refine blk_alloc ?_ _)); exact BK229.out) hb); have n2_ := Aside0.mk (below_step (by repeat (first | (with_reducible first | exact HB.out | apply below_alloc | apply pw_below_drewN | apply below_drew1 | refine below_set ?_ GE222.out | refine below_set ?_ GE229.out) | exact HB.out)) hb); have n3_ := Aside0.mk (hbox); have n4_ := Aside0.mk ((by rw [hg]; exact (below_size (by repeat (first | (with_reducible first | exact HB.out | apply below_alloc | apply pw_below_drewN | apply below_drew1 | refine below_set ?_ GE222.out | refine below_set ?_ GE229.out) | exact HB.out))) : w.heap.size ≤ gb235)); have n5_ := Aside0.mk ((by rw [hg]; exact (below_size (by repeat (first | (with_reducible first | exact HB.out | apply below_alloc | apply pw_below_drewN | apply below_drew1 | refine below_set ?_ GE222.out | refine below_set ?_ GE229.out) | exact HB.out))) : w.heap.size ≤ gb235)); have n6_ := Aside0.mk ((by rw [hg]; exact Nat.ne_of_lt (blk_lt (g := gb222) (o := .cells #[.string a0_0, .int .i64 a0_1, .int .i64 a0_2] 23 (0, 0)) (by (with_reducible repeat (first | refine blk_drewN ?_ _ | refine blk_drew ?_ | refine blk_alloc ?_ _)); exact BK222.out)) : gb222 ≠ gb235)); have n7_ := Aside0.mk ((by rw [hg]; exact Nat.ne_of_gt (blk_lt (g := gb222) (o := .cells #[.string a0_0, .int .i64 a0_1, .int .i64 a0_2] 23 (0, 0)) (by (with_reducible repeat (first | refine blk_drewN ?_ _ | refine blk_drew ?_ | refine blk_alloc ?_ _)); exact BK222.out)) : gb235 ≠ gb222)); have n8_ := Aside0.mk ((by rw [hg]; exact Nat.ne_of_lt (blk_lt (g := gb229) (o := .cells #[.string t224, .int .i64 t225, .int .i64 t226] 23 (0, 0)) (by (with_reducible repeat (first | refine blk_drewN ?_ _ | refine blk_drew ?_ | refine blk_alloc ?_ _)); exact BK229.out)) : gb229 ≠ gb235)); have n9_ := Aside0.mk ((by rw [hg]; exact Nat.ne_of_gt (blk_lt (g := gb229) (o := .cells #[.string t224, .int .i64 t225, .int .i64 t226] 23 (0, 0)) (by (with_reducible repeat (first | refine blk_drewN ?_ _ | refine blk_drew ?_ | refine blk_alloc ?_ _)); exact BK229.out)) : gb235 ≠ gb229)); clear BK222; clear BK229; clear HB; have BK222 := n0_; have BK229 := n1_; have HB := n2_; have BK235 := n3_; have GW235 := n4_; have GE235 := n5_; have NB222_235 := n6_; have NB235_222 := n7_; have NB229_235 := n8_; have NB235_229 := n9_; clear n0_ n1_ n2_ n3_ n4_ n5_ n6_ n7_ n8_ n9_; clear hb hbox hg; have hnb27 := NB235_222.out; have hnc27 := NB222_235.out; have hnb28 := NB235_229.out; have hnc28 := NB229_235.out; have hcz29_0 : w26.cell? ⟨gb235, 0, none⟩ = some (.string (⟨#[]⟩ : ByteArray)) := (blk_cell BK235.out 0).trans rfl; have hcz29_1 : w26.cell? ⟨gb235, 1, none⟩ = some (.int .i64 0) := (blk_cell BK235.out 1).trans rfl; have hcz29_2 : w26.cell? ⟨gb235, 2, none⟩ = some (.int .i64 0) := (blk_cell BK235.out 2).trans rfl; have hfz29_0 := blk_frozen BK235.out 0; have hfz29_1 := blk_frozen BK235.out 1; have hfz29_2 := blk_frozen BK235.out 2))
        (try simp only [Act.put, List.setIfInBounds_toArray, List.set_cons_zero, List.set_cons_succ])
        go_cut [73] (fun v73 wc => ∃ (kq : Nat) (x73_17 : Bool), v73 = .bool x73_17 ∧ Aside0 (emulatorlaw42_PipeWaits.j1 kq t227 t228 t233 t234 x73_17 a0_0 a0_1 a0_2 t224 t225 t226 t230 t231 t232 = some r) ∧ Aside0 (kq ≤ kj3) ∧ Aside0 (wc.heap[gb222]? = some (.cells #[.string a0_0, .int .i64 a0_1, .int .i64 a0_2] 23 (0, 0))) ∧ Aside0 (wc.heap[gb229]? = some (.cells #[.string t224, .int .i64 t225, .int .i64 t226] 23 (0, 0))) ∧ Aside0 (wc.heap[gb235]? = some (.cells #[.string t230, .int .i64 t231, .int .i64 t232] 23 (0, 0))) ∧ Aside0 (Below w.heap.size w wc))
        case first =>
          have H := HC18.out
          clear HC18
          by_cases c30 : t228 = 20
          · rw [if_pos c30] at H
            have c30b0 : (t228 == 20) = true := beq_iff_eq.mpr c30
            have c30b1 : (t228 != 20) = false := bne_eq_false_iff_eq.mpr c30
            clear c30
            (first | rw [c30b0] | (simp only [i64_w, i32_w]; rw [c30b0]) | skip)
            by_cases c31 : a0_0.toList = ([] : List UInt8)
            · rw [if_pos c31] at H
              have c31b0 : (a0_0.toList == ([] : List UInt8)) = true := beq_iff_eq.mpr c31
              have c31b1 : (a0_0.toList != ([] : List UInt8)) = false := bne_eq_false_iff_eq.mpr c31
              clear c31
              by_cases c32 : a0_2 = 0
              · rw [if_pos c32] at H
                have c32b0 : (a0_2 == 0) = true := beq_iff_eq.mpr c32
                have c32b1 : (a0_2 != 0) = false := bne_eq_false_iff_eq.mpr c32
                clear c32
                have H' := Aside0.mk H
                clear H
                have hnb33 := NB222_229.out
                have hnc33 := NB229_222.out
                have hnb34 := NB222_235.out
                have hnc34 := NB235_222.out
                have hcz35_0 : w26.cell? ⟨gb222, 0, none⟩ = some (.string a0_0) := (blk_cell BK222.out 0).trans rfl
                have hcz35_1 : w26.cell? ⟨gb222, 1, none⟩ = some (.int .i64 a0_1) := (blk_cell BK222.out 1).trans rfl
                have hcz35_2 : w26.cell? ⟨gb222, 2, none⟩ = some (.int .i64 a0_2) := (blk_cell BK222.out 2).trans rfl
                have hfz35_0 := blk_frozen BK222.out 0
                have hfz35_1 := blk_frozen BK222.out 1
                have hfz35_2 := blk_frozen BK222.out 2
                go_wp2
                go_meet
                case rel => exact ⟨_, (true), (by first | rfl | (simp; done) | (simp [*]; done)), H', ⟨by have := HJ3.out; first | omega | exact Nat.le_refl _⟩, ⟨by (with_reducible repeat (first | refine blk_drewN ?_ _ | refine blk_drew ?_ | refine blk_alloc ?_ _)); refine blk_far ?_ NB222_235.out _; (with_reducible repeat (first | refine blk_drewN ?_ _ | refine blk_drew ?_ | refine blk_alloc ?_ _)); refine blk_far ?_ NB222_235.out _; (with_reducible repeat (first | refine blk_drewN ?_ _ | refine blk_drew ?_ | refine blk_alloc ?_ _)); refine blk_far ?_ NB222_235.out _; (with_reducible repeat (first | refine blk_drewN ?_ _ | refine blk_drew ?_ | refine blk_alloc ?_ _)); exact BK222.out⟩, ⟨by (with_reducible repeat (first | refine blk_drewN ?_ _ | refine blk_drew ?_ | refine blk_alloc ?_ _)); refine blk_far ?_ NB229_235.out _; (with_reducible repeat (first | refine blk_drewN ?_ _ | refine blk_drew ?_ | refine blk_alloc ?_ _)); refine blk_far ?_ NB229_235.out _; (with_reducible repeat (first | refine blk_drewN ?_ _ | refine blk_drew ?_ | refine blk_alloc ?_ _)); refine blk_far ?_ NB229_235.out _; (with_reducible repeat (first | refine blk_drewN ?_ _ | refine blk_drew ?_ | refine blk_alloc ?_ _)); exact BK229.out⟩, ⟨by (with_reducible repeat (first | refine blk_drewN ?_ _ | refine blk_drew ?_ | refine blk_alloc ?_ _)); refine blk_put (cs := #[.string t230, .int .i64 t231, .int .i64 0]) ?_ 2 _ rfl; (with_reducible repeat (first | refine blk_drewN ?_ _ | refine blk_drew ?_ | refine blk_alloc ?_ _)); refine blk_put (cs := #[.string t230, .int .i64 0, .int .i64 0]) ?_ 1 _ rfl; (with_reducible repeat (first | refine blk_drewN ?_ _ | refine blk_drew ?_ | refine blk_alloc ?_ _)); refine blk_put (cs := #[.string (⟨#[]⟩ : ByteArray), .int .i64 0, .int .i64 0]) ?_ 0 _ rfl; (with_reducible repeat (first | refine blk_drewN ?_ _ | refine blk_drew ?_ | refine blk_alloc ?_ _)); exact BK235.out⟩, ⟨by repeat (first | (with_reducible first | exact HB.out | apply below_alloc | apply pw_below_drewN | apply below_drew1 | refine below_set ?_ GE222.out | refine below_set ?_ GE229.out | refine below_set ?_ GE235.out) | exact HB.out)⟩⟩
              · rw [if_neg c32] at H
                have c32b0 : (a0_2 == 0) = false := beq_eq_false_iff_ne.mpr c32
                have c32b1 : (a0_2 != 0) = true := bne_iff_ne.mpr c32
                by_cases c36 : a0_1 = 0
                · rw [if_pos c36] at H
                  have c36b0 : (a0_1 == 0) = true := beq_iff_eq.mpr c36
                  have c36b1 : (a0_1 != 0) = false := bne_eq_false_iff_eq.mpr c36
                  clear c36
                  have H' := Aside0.mk H
                  clear H
                  have hnb37 := NB222_229.out
                  have hnc37 := NB229_222.out
                  have hnb38 := NB222_235.out
                  have hnc38 := NB235_222.out
                  have hcz39_0 : w26.cell? ⟨gb222, 0, none⟩ = some (.string a0_0) := (blk_cell BK222.out 0).trans rfl
                  have hcz39_1 : w26.cell? ⟨gb222, 1, none⟩ = some (.int .i64 a0_1) := (blk_cell BK222.out 1).trans rfl
                  have hcz39_2 : w26.cell? ⟨gb222, 2, none⟩ = some (.int .i64 a0_2) := (blk_cell BK222.out 2).trans rfl
                  have hfz39_0 := blk_frozen BK222.out 0
                  have hfz39_1 := blk_frozen BK222.out 1
                  have hfz39_2 := blk_frozen BK222.out 2
                  go_wp2
                  go_meet
                  case rel => exact ⟨_, (true), (by first | rfl | (simp; done) | (simp [*]; done)), H', ⟨by have := HJ3.out; first | omega | exact Nat.le_refl _⟩, ⟨by (with_reducible repeat (first | refine blk_drewN ?_ _ | refine blk_drew ?_ | refine blk_alloc ?_ _)); refine blk_far ?_ NB222_235.out _; (with_reducible repeat (first | refine blk_drewN ?_ _ | refine blk_drew ?_ | refine blk_alloc ?_ _)); refine blk_far ?_ NB222_235.out _; (with_reducible repeat (first | refine blk_drewN ?_ _ | refine blk_drew ?_ | refine blk_alloc ?_ _)); refine blk_far ?_ NB222_235.out _; (with_reducible repeat (first | refine blk_drewN ?_ _ | refine blk_drew ?_ | refine blk_alloc ?_ _)); exact BK222.out⟩, ⟨by (with_reducible repeat (first | refine blk_drewN ?_ _ | refine blk_drew ?_ | refine blk_alloc ?_ _)); refine blk_far ?_ NB229_235.out _; (with_reducible repeat (first | refine blk_drewN ?_ _ | refine blk_drew ?_ | refine blk_alloc ?_ _)); refine blk_far ?_ NB229_235.out _; (with_reducible repeat (first | refine blk_drewN ?_ _ | refine blk_drew ?_ | refine blk_alloc ?_ _)); refine blk_far ?_ NB229_235.out _; (with_reducible repeat (first | refine blk_drewN ?_ _ | refine blk_drew ?_ | refine blk_alloc ?_ _)); exact BK229.out⟩, ⟨by (with_reducible repeat (first | refine blk_drewN ?_ _ | refine blk_drew ?_ | refine blk_alloc ?_ _)); refine blk_put (cs := #[.string t230, .int .i64 t231, .int .i64 0]) ?_ 2 _ rfl; (with_reducible repeat (first | refine blk_drewN ?_ _ | refine blk_drew ?_ | refine blk_alloc ?_ _)); refine blk_put (cs := #[.string t230, .int .i64 0, .int .i64 0]) ?_ 1 _ rfl; (with_reducible repeat (first | refine blk_drewN ?_ _ | refine blk_drew ?_ | refine blk_alloc ?_ _)); refine blk_put (cs := #[.string (⟨#[]⟩ : ByteArray), .int .i64 0, .int .i64 0]) ?_ 0 _ rfl; (with_reducible repeat (first | refine blk_drewN ?_ _ | refine blk_drew ?_ | refine blk_alloc ?_ _)); exact BK235.out⟩, ⟨by repeat (first | (with_reducible first | exact HB.out | apply below_alloc | apply pw_below_drewN | apply below_drew1 | refine below_set ?_ GE222.out | refine below_set ?_ GE229.out | refine below_set ?_ GE235.out) | exact HB.out)⟩⟩
                · rw [if_neg c36] at H
                  have c36b0 : (a0_1 == 0) = false := beq_eq_false_iff_ne.mpr c36
                  have c36b1 : (a0_1 != 0) = true := bne_iff_ne.mpr c36
                  by_cases c40 : t228 = 0
                  · rw [if_pos c40] at H
                    have c40b0 : (t228 == 0) = true := beq_iff_eq.mpr c40
                    have c40b1 : (t228 != 0) = false := bne_eq_false_iff_eq.mpr c40
                    clear c40
                    by_cases c41 : t227.toList = ([] : List UInt8)
                    · rw [if_pos c41] at H
                      have c41b0 : (t227.toList == ([] : List UInt8)) = true := beq_iff_eq.mpr c41
                      have c41b1 : (t227.toList != ([] : List UInt8)) = false := bne_eq_false_iff_eq.mpr c41
                      clear c41
                      have H' := Aside0.mk H
                      clear H
                      have hnb42 := NB222_229.out
                      have hnc42 := NB229_222.out
                      have hnb43 := NB222_235.out
                      have hnc43 := NB235_222.out
                      have hcz44_0 : w26.cell? ⟨gb222, 0, none⟩ = some (.string a0_0) := (blk_cell BK222.out 0).trans rfl
                      have hcz44_1 : w26.cell? ⟨gb222, 1, none⟩ = some (.int .i64 a0_1) := (blk_cell BK222.out 1).trans rfl
                      have hcz44_2 : w26.cell? ⟨gb222, 2, none⟩ = some (.int .i64 a0_2) := (blk_cell BK222.out 2).trans rfl
                      have hfz44_0 := blk_frozen BK222.out 0
                      have hfz44_1 := blk_frozen BK222.out 1
                      have hfz44_2 := blk_frozen BK222.out 2
                      go_wp2
                      go_meet
                      case rel => exact ⟨_, (decide (a0_2 > 0)), (by first | rfl | (simp; done) | (simp [*]; done)), H', ⟨by have := HJ3.out; first | omega | exact Nat.le_refl _⟩, ⟨by (with_reducible repeat (first | refine blk_drewN ?_ _ | refine blk_drew ?_ | refine blk_alloc ?_ _)); refine blk_far ?_ NB222_235.out _; (with_reducible repeat (first | refine blk_drewN ?_ _ | refine blk_drew ?_ | refine blk_alloc ?_ _)); refine blk_far ?_ NB222_235.out _; (with_reducible repeat (first | refine blk_drewN ?_ _ | refine blk_drew ?_ | refine blk_alloc ?_ _)); refine blk_far ?_ NB222_235.out _; (with_reducible repeat (first | refine blk_drewN ?_ _ | refine blk_drew ?_ | refine blk_alloc ?_ _)); exact BK222.out⟩, ⟨by (with_reducible repeat (first | refine blk_drewN ?_ _ | refine blk_drew ?_ | refine blk_alloc ?_ _)); refine blk_far ?_ NB229_235.out _; (with_reducible repeat (first | refine blk_drewN ?_ _ | refine blk_drew ?_ | refine blk_alloc ?_ _)); refine blk_far ?_ NB229_235.out _; (with_reducible repeat (first | refine blk_drewN ?_ _ | refine blk_drew ?_ | refine blk_alloc ?_ _)); refine blk_far ?_ NB229_235.out _; (with_reducible repeat (first | refine blk_drewN ?_ _ | refine blk_drew ?_ | refine blk_alloc ?_ _)); exact BK229.out⟩, ⟨by (with_reducible repeat (first | refine blk_drewN ?_ _ | refine blk_drew ?_ | refine blk_alloc ?_ _)); refine blk_put (cs := #[.string t230, .int .i64 t231, .int .i64 0]) ?_ 2 _ rfl; (with_reducible repeat (first | refine blk_drewN ?_ _ | refine blk_drew ?_ | refine blk_alloc ?_ _)); refine blk_put (cs := #[.string t230, .int .i64 0, .int .i64 0]) ?_ 1 _ rfl; (with_reducible repeat (first | refine blk_drewN ?_ _ | refine blk_drew ?_ | refine blk_alloc ?_ _)); refine blk_put (cs := #[.string (⟨#[]⟩ : ByteArray), .int .i64 0, .int .i64 0]) ?_ 0 _ rfl; (with_reducible repeat (first | refine blk_drewN ?_ _ | refine blk_drew ?_ | refine blk_alloc ?_ _)); exact BK235.out⟩, ⟨by repeat (first | (with_reducible first | exact HB.out | apply below_alloc | apply pw_below_drewN | apply below_drew1 | refine below_set ?_ GE222.out | refine below_set ?_ GE229.out | refine below_set ?_ GE235.out) | exact HB.out)⟩⟩
                    · rw [if_neg c41] at H
                      have c41b0 : (t227.toList == ([] : List UInt8)) = false := beq_eq_false_iff_ne.mpr c41
                      have c41b1 : (t227.toList != ([] : List UInt8)) = true := bne_iff_ne.mpr c41
                      have H' := Aside0.mk H
                      clear H
                      have hnb45 := NB222_229.out
                      have hnc45 := NB229_222.out
                      have hnb46 := NB222_235.out
                      have hnc46 := NB235_222.out
                      have hcz47_0 : w26.cell? ⟨gb222, 0, none⟩ = some (.string a0_0) := (blk_cell BK222.out 0).trans rfl
                      have hcz47_1 : w26.cell? ⟨gb222, 1, none⟩ = some (.int .i64 a0_1) := (blk_cell BK222.out 1).trans rfl
                      have hcz47_2 : w26.cell? ⟨gb222, 2, none⟩ = some (.int .i64 a0_2) := (blk_cell BK222.out 2).trans rfl
                      have hfz47_0 := blk_frozen BK222.out 0
                      have hfz47_1 := blk_frozen BK222.out 1
                      have hfz47_2 := blk_frozen BK222.out 2
                      go_wp2
                      go_meet
                      case rel => exact ⟨_, (false), (by first | rfl | (simp; done) | (simp [*]; done)), H', ⟨by have := HJ3.out; first | omega | exact Nat.le_refl _⟩, ⟨by (with_reducible repeat (first | refine blk_drewN ?_ _ | refine blk_drew ?_ | refine blk_alloc ?_ _)); refine blk_far ?_ NB222_235.out _; (with_reducible repeat (first | refine blk_drewN ?_ _ | refine blk_drew ?_ | refine blk_alloc ?_ _)); refine blk_far ?_ NB222_235.out _; (with_reducible repeat (first | refine blk_drewN ?_ _ | refine blk_drew ?_ | refine blk_alloc ?_ _)); refine blk_far ?_ NB222_235.out _; (with_reducible repeat (first | refine blk_drewN ?_ _ | refine blk_drew ?_ | refine blk_alloc ?_ _)); exact BK222.out⟩, ⟨by (with_reducible repeat (first | refine blk_drewN ?_ _ | refine blk_drew ?_ | refine blk_alloc ?_ _)); refine blk_far ?_ NB229_235.out _; (with_reducible repeat (first | refine blk_drewN ?_ _ | refine blk_drew ?_ | refine blk_alloc ?_ _)); refine blk_far ?_ NB229_235.out _; (with_reducible repeat (first | refine blk_drewN ?_ _ | refine blk_drew ?_ | refine blk_alloc ?_ _)); refine blk_far ?_ NB229_235.out _; (with_reducible repeat (first | refine blk_drewN ?_ _ | refine blk_drew ?_ | refine blk_alloc ?_ _)); exact BK229.out⟩, ⟨by (with_reducible repeat (first | refine blk_drewN ?_ _ | refine blk_drew ?_ | refine blk_alloc ?_ _)); refine blk_put (cs := #[.string t230, .int .i64 t231, .int .i64 0]) ?_ 2 _ rfl; (with_reducible repeat (first | refine blk_drewN ?_ _ | refine blk_drew ?_ | refine blk_alloc ?_ _)); refine blk_put (cs := #[.string t230, .int .i64 0, .int .i64 0]) ?_ 1 _ rfl; (with_reducible repeat (first | refine blk_drewN ?_ _ | refine blk_drew ?_ | refine blk_alloc ?_ _)); refine blk_put (cs := #[.string (⟨#[]⟩ : ByteArray), .int .i64 0, .int .i64 0]) ?_ 0 _ rfl; (with_reducible repeat (first | refine blk_drewN ?_ _ | refine blk_drew ?_ | refine blk_alloc ?_ _)); exact BK235.out⟩, ⟨by repeat (first | (with_reducible first | exact HB.out | apply below_alloc | apply pw_below_drewN | apply below_drew1 | refine below_set ?_ GE222.out | refine below_set ?_ GE229.out | refine below_set ?_ GE235.out) | exact HB.out)⟩⟩
                  · rw [if_neg c40] at H
                    have c40b0 : (t228 == 0) = false := beq_eq_false_iff_ne.mpr c40
                    have c40b1 : (t228 != 0) = true := bne_iff_ne.mpr c40
                    have H' := Aside0.mk H
                    clear H
                    have hnb48 := NB222_229.out
                    have hnc48 := NB229_222.out
                    have hnb49 := NB222_235.out
                    have hnc49 := NB235_222.out
                    have hcz50_0 : w26.cell? ⟨gb222, 0, none⟩ = some (.string a0_0) := (blk_cell BK222.out 0).trans rfl
                    have hcz50_1 : w26.cell? ⟨gb222, 1, none⟩ = some (.int .i64 a0_1) := (blk_cell BK222.out 1).trans rfl
                    have hcz50_2 : w26.cell? ⟨gb222, 2, none⟩ = some (.int .i64 a0_2) := (blk_cell BK222.out 2).trans rfl
                    have hfz50_0 := blk_frozen BK222.out 0
                    have hfz50_1 := blk_frozen BK222.out 1
                    have hfz50_2 := blk_frozen BK222.out 2
                    go_wp2
                    go_meet
                    case rel => exact ⟨_, (false), (by first | rfl | (simp; done) | (simp [*]; done)), H', ⟨by have := HJ3.out; first | omega | exact Nat.le_refl _⟩, ⟨by (with_reducible repeat (first | refine blk_drewN ?_ _ | refine blk_drew ?_ | refine blk_alloc ?_ _)); refine blk_far ?_ NB222_235.out _; (with_reducible repeat (first | refine blk_drewN ?_ _ | refine blk_drew ?_ | refine blk_alloc ?_ _)); refine blk_far ?_ NB222_235.out _; (with_reducible repeat (first | refine blk_drewN ?_ _ | refine blk_drew ?_ | refine blk_alloc ?_ _)); refine blk_far ?_ NB222_235.out _; (with_reducible repeat (first | refine blk_drewN ?_ _ | refine blk_drew ?_ | refine blk_alloc ?_ _)); exact BK222.out⟩, ⟨by (with_reducible repeat (first | refine blk_drewN ?_ _ | refine blk_drew ?_ | refine blk_alloc ?_ _)); refine blk_far ?_ NB229_235.out _; (with_reducible repeat (first | refine blk_drewN ?_ _ | refine blk_drew ?_ | refine blk_alloc ?_ _)); refine blk_far ?_ NB229_235.out _; (with_reducible repeat (first | refine blk_drewN ?_ _ | refine blk_drew ?_ | refine blk_alloc ?_ _)); refine blk_far ?_ NB229_235.out _; (with_reducible repeat (first | refine blk_drewN ?_ _ | refine blk_drew ?_ | refine blk_alloc ?_ _)); exact BK229.out⟩, ⟨by (with_reducible repeat (first | refine blk_drewN ?_ _ | refine blk_drew ?_ | refine blk_alloc ?_ _)); refine blk_put (cs := #[.string t230, .int .i64 t231, .int .i64 0]) ?_ 2 _ rfl; (with_reducible repeat (first | refine blk_drewN ?_ _ | refine blk_drew ?_ | refine blk_alloc ?_ _)); refine blk_put (cs := #[.string t230, .int .i64 0, .int .i64 0]) ?_ 1 _ rfl; (with_reducible repeat (first | refine blk_drewN ?_ _ | refine blk_drew ?_ | refine blk_alloc ?_ _)); refine blk_put (cs := #[.string (⟨#[]⟩ : ByteArray), .int .i64 0, .int .i64 0]) ?_ 0 _ rfl; (with_reducible repeat (first | refine blk_drewN ?_ _ | refine blk_drew ?_ | refine blk_alloc ?_ _)); exact BK235.out⟩, ⟨by repeat (first | (with_reducible first | exact HB.out | apply below_alloc | apply pw_below_drewN | apply below_drew1 | refine below_set ?_ GE222.out | refine below_set ?_ GE229.out | refine below_set ?_ GE235.out) | exact HB.out)⟩⟩
            · rw [if_neg c31] at H
              have c31b0 : (a0_0.toList == ([] : List UInt8)) = false := beq_eq_false_iff_ne.mpr c31
              have c31b1 : (a0_0.toList != ([] : List UInt8)) = true := bne_iff_ne.mpr c31
              have H' := Aside0.mk H
              clear H
              have hnb51 := NB222_229.out
              have hnc51 := NB229_222.out
              have hnb52 := NB222_235.out
              have hnc52 := NB235_222.out
              have hcz53_0 : w26.cell? ⟨gb222, 0, none⟩ = some (.string a0_0) := (blk_cell BK222.out 0).trans rfl
              have hcz53_1 : w26.cell? ⟨gb222, 1, none⟩ = some (.int .i64 a0_1) := (blk_cell BK222.out 1).trans rfl
              have hcz53_2 : w26.cell? ⟨gb222, 2, none⟩ = some (.int .i64 a0_2) := (blk_cell BK222.out 2).trans rfl
              have hfz53_0 := blk_frozen BK222.out 0
              have hfz53_1 := blk_frozen BK222.out 1
              have hfz53_2 := blk_frozen BK222.out 2
              go_wp2
              go_meet
              case rel => exact ⟨_, (true), (by first | rfl | (simp; done) | (simp [*]; done)), H', ⟨by have := HJ3.out; first | omega | exact Nat.le_refl _⟩, ⟨by (with_reducible repeat (first | refine blk_drewN ?_ _ | refine blk_drew ?_ | refine blk_alloc ?_ _)); refine blk_far ?_ NB222_235.out _; (with_reducible repeat (first | refine blk_drewN ?_ _ | refine blk_drew ?_ | refine blk_alloc ?_ _)); refine blk_far ?_ NB222_235.out _; (with_reducible repeat (first | refine blk_drewN ?_ _ | refine blk_drew ?_ | refine blk_alloc ?_ _)); refine blk_far ?_ NB222_235.out _; (with_reducible repeat (first | refine blk_drewN ?_ _ | refine blk_drew ?_ | refine blk_alloc ?_ _)); exact BK222.out⟩, ⟨by (with_reducible repeat (first | refine blk_drewN ?_ _ | refine blk_drew ?_ | refine blk_alloc ?_ _)); refine blk_far ?_ NB229_235.out _; (with_reducible repeat (first | refine blk_drewN ?_ _ | refine blk_drew ?_ | refine blk_alloc ?_ _)); refine blk_far ?_ NB229_235.out _; (with_reducible repeat (first | refine blk_drewN ?_ _ | refine blk_drew ?_ | refine blk_alloc ?_ _)); refine blk_far ?_ NB229_235.out _; (with_reducible repeat (first | refine blk_drewN ?_ _ | refine blk_drew ?_ | refine blk_alloc ?_ _)); exact BK229.out⟩, ⟨by (with_reducible repeat (first | refine blk_drewN ?_ _ | refine blk_drew ?_ | refine blk_alloc ?_ _)); refine blk_put (cs := #[.string t230, .int .i64 t231, .int .i64 0]) ?_ 2 _ rfl; (with_reducible repeat (first | refine blk_drewN ?_ _ | refine blk_drew ?_ | refine blk_alloc ?_ _)); refine blk_put (cs := #[.string t230, .int .i64 0, .int .i64 0]) ?_ 1 _ rfl; (with_reducible repeat (first | refine blk_drewN ?_ _ | refine blk_drew ?_ | refine blk_alloc ?_ _)); refine blk_put (cs := #[.string (⟨#[]⟩ : ByteArray), .int .i64 0, .int .i64 0]) ?_ 0 _ rfl; (with_reducible repeat (first | refine blk_drewN ?_ _ | refine blk_drew ?_ | refine blk_alloc ?_ _)); exact BK235.out⟩, ⟨by repeat (first | (with_reducible first | exact HB.out | apply below_alloc | apply pw_below_drewN | apply below_drew1 | refine below_set ?_ GE222.out | refine below_set ?_ GE229.out | refine below_set ?_ GE235.out) | exact HB.out)⟩⟩
          · rw [if_neg c30] at H
            have c30b0 : (t228 == 20) = false := beq_eq_false_iff_ne.mpr c30
            have c30b1 : (t228 != 20) = true := bne_iff_ne.mpr c30
            (first | rw [c30b0] | (simp only [i64_w, i32_w]; rw [c30b0]) | skip)
            by_cases c54 : t228 = 0
            · rw [if_pos c54] at H
              have c54b0 : (t228 == 0) = true := beq_iff_eq.mpr c54
              have c54b1 : (t228 != 0) = false := bne_eq_false_iff_eq.mpr c54
              clear c54
              by_cases c55 : t227.toList = ([] : List UInt8)
              · rw [if_pos c55] at H
                have c55b0 : (t227.toList == ([] : List UInt8)) = true := beq_iff_eq.mpr c55
                have c55b1 : (t227.toList != ([] : List UInt8)) = false := bne_eq_false_iff_eq.mpr c55
                clear c55
                by_cases c56 : a0_0.toList = ([] : List UInt8)
                · rw [if_pos c56] at H
                  have c56b0 : (a0_0.toList == ([] : List UInt8)) = true := beq_iff_eq.mpr c56
                  have c56b1 : (a0_0.toList != ([] : List UInt8)) = false := bne_eq_false_iff_eq.mpr c56
                  clear c56
                  have H' := Aside0.mk H
                  clear H
                  have hnb57 := NB222_229.out
                  have hnc57 := NB229_222.out
                  have hnb58 := NB222_235.out
                  have hnc58 := NB235_222.out
                  have hcz59_0 : w26.cell? ⟨gb222, 0, none⟩ = some (.string a0_0) := (blk_cell BK222.out 0).trans rfl
                  have hcz59_1 : w26.cell? ⟨gb222, 1, none⟩ = some (.int .i64 a0_1) := (blk_cell BK222.out 1).trans rfl
                  have hcz59_2 : w26.cell? ⟨gb222, 2, none⟩ = some (.int .i64 a0_2) := (blk_cell BK222.out 2).trans rfl
                  have hfz59_0 := blk_frozen BK222.out 0
                  have hfz59_1 := blk_frozen BK222.out 1
                  have hfz59_2 := blk_frozen BK222.out 2
                  go_wp2
                  go_meet
                  case rel => exact ⟨_, (decide (a0_2 > 0)), (by first | rfl | (simp; done) | (simp [*]; done)), H', ⟨by have := HJ3.out; first | omega | exact Nat.le_refl _⟩, ⟨by (with_reducible repeat (first | refine blk_drewN ?_ _ | refine blk_drew ?_ | refine blk_alloc ?_ _)); refine blk_far ?_ NB222_235.out _; (with_reducible repeat (first | refine blk_drewN ?_ _ | refine blk_drew ?_ | refine blk_alloc ?_ _)); refine blk_far ?_ NB222_235.out _; (with_reducible repeat (first | refine blk_drewN ?_ _ | refine blk_drew ?_ | refine blk_alloc ?_ _)); refine blk_far ?_ NB222_235.out _; (with_reducible repeat (first | refine blk_drewN ?_ _ | refine blk_drew ?_ | refine blk_alloc ?_ _)); exact BK222.out⟩, ⟨by (with_reducible repeat (first | refine blk_drewN ?_ _ | refine blk_drew ?_ | refine blk_alloc ?_ _)); refine blk_far ?_ NB229_235.out _; (with_reducible repeat (first | refine blk_drewN ?_ _ | refine blk_drew ?_ | refine blk_alloc ?_ _)); refine blk_far ?_ NB229_235.out _; (with_reducible repeat (first | refine blk_drewN ?_ _ | refine blk_drew ?_ | refine blk_alloc ?_ _)); refine blk_far ?_ NB229_235.out _; (with_reducible repeat (first | refine blk_drewN ?_ _ | refine blk_drew ?_ | refine blk_alloc ?_ _)); exact BK229.out⟩, ⟨by (with_reducible repeat (first | refine blk_drewN ?_ _ | refine blk_drew ?_ | refine blk_alloc ?_ _)); refine blk_put (cs := #[.string t230, .int .i64 t231, .int .i64 0]) ?_ 2 _ rfl; (with_reducible repeat (first | refine blk_drewN ?_ _ | refine blk_drew ?_ | refine blk_alloc ?_ _)); refine blk_put (cs := #[.string t230, .int .i64 0, .int .i64 0]) ?_ 1 _ rfl; (with_reducible repeat (first | refine blk_drewN ?_ _ | refine blk_drew ?_ | refine blk_alloc ?_ _)); refine blk_put (cs := #[.string (⟨#[]⟩ : ByteArray), .int .i64 0, .int .i64 0]) ?_ 0 _ rfl; (with_reducible repeat (first | refine blk_drewN ?_ _ | refine blk_drew ?_ | refine blk_alloc ?_ _)); exact BK235.out⟩, ⟨by repeat (first | (with_reducible first | exact HB.out | apply below_alloc | apply pw_below_drewN | apply below_drew1 | refine below_set ?_ GE222.out | refine below_set ?_ GE229.out | refine below_set ?_ GE235.out) | exact HB.out)⟩⟩
                · rw [if_neg c56] at H
                  have c56b0 : (a0_0.toList == ([] : List UInt8)) = false := beq_eq_false_iff_ne.mpr c56
                  have c56b1 : (a0_0.toList != ([] : List UInt8)) = true := bne_iff_ne.mpr c56
                  have H' := Aside0.mk H
                  clear H
                  have hnb60 := NB222_229.out
                  have hnc60 := NB229_222.out
                  have hnb61 := NB222_235.out
                  have hnc61 := NB235_222.out
                  have hcz62_0 : w26.cell? ⟨gb222, 0, none⟩ = some (.string a0_0) := (blk_cell BK222.out 0).trans rfl
                  have hcz62_1 : w26.cell? ⟨gb222, 1, none⟩ = some (.int .i64 a0_1) := (blk_cell BK222.out 1).trans rfl
                  have hcz62_2 : w26.cell? ⟨gb222, 2, none⟩ = some (.int .i64 a0_2) := (blk_cell BK222.out 2).trans rfl
                  have hfz62_0 := blk_frozen BK222.out 0
                  have hfz62_1 := blk_frozen BK222.out 1
                  have hfz62_2 := blk_frozen BK222.out 2
                  go_wp2
                  go_meet
                  case rel => exact ⟨_, (true), (by first | rfl | (simp; done) | (simp [*]; done)), H', ⟨by have := HJ3.out; first | omega | exact Nat.le_refl _⟩, ⟨by (with_reducible repeat (first | refine blk_drewN ?_ _ | refine blk_drew ?_ | refine blk_alloc ?_ _)); refine blk_far ?_ NB222_235.out _; (with_reducible repeat (first | refine blk_drewN ?_ _ | refine blk_drew ?_ | refine blk_alloc ?_ _)); refine blk_far ?_ NB222_235.out _; (with_reducible repeat (first | refine blk_drewN ?_ _ | refine blk_drew ?_ | refine blk_alloc ?_ _)); refine blk_far ?_ NB222_235.out _; (with_reducible repeat (first | refine blk_drewN ?_ _ | refine blk_drew ?_ | refine blk_alloc ?_ _)); exact BK222.out⟩, ⟨by (with_reducible repeat (first | refine blk_drewN ?_ _ | refine blk_drew ?_ | refine blk_alloc ?_ _)); refine blk_far ?_ NB229_235.out _; (with_reducible repeat (first | refine blk_drewN ?_ _ | refine blk_drew ?_ | refine blk_alloc ?_ _)); refine blk_far ?_ NB229_235.out _; (with_reducible repeat (first | refine blk_drewN ?_ _ | refine blk_drew ?_ | refine blk_alloc ?_ _)); refine blk_far ?_ NB229_235.out _; (with_reducible repeat (first | refine blk_drewN ?_ _ | refine blk_drew ?_ | refine blk_alloc ?_ _)); exact BK229.out⟩, ⟨by (with_reducible repeat (first | refine blk_drewN ?_ _ | refine blk_drew ?_ | refine blk_alloc ?_ _)); refine blk_put (cs := #[.string t230, .int .i64 t231, .int .i64 0]) ?_ 2 _ rfl; (with_reducible repeat (first | refine blk_drewN ?_ _ | refine blk_drew ?_ | refine blk_alloc ?_ _)); refine blk_put (cs := #[.string t230, .int .i64 0, .int .i64 0]) ?_ 1 _ rfl; (with_reducible repeat (first | refine blk_drewN ?_ _ | refine blk_drew ?_ | refine blk_alloc ?_ _)); refine blk_put (cs := #[.string (⟨#[]⟩ : ByteArray), .int .i64 0, .int .i64 0]) ?_ 0 _ rfl; (with_reducible repeat (first | refine blk_drewN ?_ _ | refine blk_drew ?_ | refine blk_alloc ?_ _)); exact BK235.out⟩, ⟨by repeat (first | (with_reducible first | exact HB.out | apply below_alloc | apply pw_below_drewN | apply below_drew1 | refine below_set ?_ GE222.out | refine below_set ?_ GE229.out | refine below_set ?_ GE235.out) | exact HB.out)⟩⟩
              · rw [if_neg c55] at H
                have c55b0 : (t227.toList == ([] : List UInt8)) = false := beq_eq_false_iff_ne.mpr c55
                have c55b1 : (t227.toList != ([] : List UInt8)) = true := bne_iff_ne.mpr c55
                have H' := Aside0.mk H
                clear H
                go_wp2
                go_meet
                case rel => exact ⟨_, (false), (by first | rfl | (simp; done) | (simp [*]; done)), H', ⟨by have := HJ3.out; first | omega | exact Nat.le_refl _⟩, ⟨by (with_reducible repeat (first | refine blk_drewN ?_ _ | refine blk_drew ?_ | refine blk_alloc ?_ _)); refine blk_far ?_ NB222_235.out _; (with_reducible repeat (first | refine blk_drewN ?_ _ | refine blk_drew ?_ | refine blk_alloc ?_ _)); refine blk_far ?_ NB222_235.out _; (with_reducible repeat (first | refine blk_drewN ?_ _ | refine blk_drew ?_ | refine blk_alloc ?_ _)); refine blk_far ?_ NB222_235.out _; (with_reducible repeat (first | refine blk_drewN ?_ _ | refine blk_drew ?_ | refine blk_alloc ?_ _)); exact BK222.out⟩, ⟨by (with_reducible repeat (first | refine blk_drewN ?_ _ | refine blk_drew ?_ | refine blk_alloc ?_ _)); refine blk_far ?_ NB229_235.out _; (with_reducible repeat (first | refine blk_drewN ?_ _ | refine blk_drew ?_ | refine blk_alloc ?_ _)); refine blk_far ?_ NB229_235.out _; (with_reducible repeat (first | refine blk_drewN ?_ _ | refine blk_drew ?_ | refine blk_alloc ?_ _)); refine blk_far ?_ NB229_235.out _; (with_reducible repeat (first | refine blk_drewN ?_ _ | refine blk_drew ?_ | refine blk_alloc ?_ _)); exact BK229.out⟩, ⟨by (with_reducible repeat (first | refine blk_drewN ?_ _ | refine blk_drew ?_ | refine blk_alloc ?_ _)); refine blk_put (cs := #[.string t230, .int .i64 t231, .int .i64 0]) ?_ 2 _ rfl; (with_reducible repeat (first | refine blk_drewN ?_ _ | refine blk_drew ?_ | refine blk_alloc ?_ _)); refine blk_put (cs := #[.string t230, .int .i64 0, .int .i64 0]) ?_ 1 _ rfl; (with_reducible repeat (first | refine blk_drewN ?_ _ | refine blk_drew ?_ | refine blk_alloc ?_ _)); refine blk_put (cs := #[.string (⟨#[]⟩ : ByteArray), .int .i64 0, .int .i64 0]) ?_ 0 _ rfl; (with_reducible repeat (first | refine blk_drewN ?_ _ | refine blk_drew ?_ | refine blk_alloc ?_ _)); exact BK235.out⟩, ⟨by repeat (first | (with_reducible first | exact HB.out | apply below_alloc | apply pw_below_drewN | apply below_drew1 | refine below_set ?_ GE222.out | refine below_set ?_ GE229.out | refine below_set ?_ GE235.out) | exact HB.out)⟩⟩
            · rw [if_neg c54] at H
              have c54b0 : (t228 == 0) = false := beq_eq_false_iff_ne.mpr c54
              have c54b1 : (t228 != 0) = true := bne_iff_ne.mpr c54
              have H' := Aside0.mk H
              clear H
              go_wp2
              go_meet
              case rel => exact ⟨_, (false), (by first | rfl | (simp; done) | (simp [*]; done)), H', ⟨by have := HJ3.out; first | omega | exact Nat.le_refl _⟩, ⟨by (with_reducible repeat (first | refine blk_drewN ?_ _ | refine blk_drew ?_ | refine blk_alloc ?_ _)); refine blk_far ?_ NB222_235.out _; (with_reducible repeat (first | refine blk_drewN ?_ _ | refine blk_drew ?_ | refine blk_alloc ?_ _)); refine blk_far ?_ NB222_235.out _; (with_reducible repeat (first | refine blk_drewN ?_ _ | refine blk_drew ?_ | refine blk_alloc ?_ _)); refine blk_far ?_ NB222_235.out _; (with_reducible repeat (first | refine blk_drewN ?_ _ | refine blk_drew ?_ | refine blk_alloc ?_ _)); exact BK222.out⟩, ⟨by (with_reducible repeat (first | refine blk_drewN ?_ _ | refine blk_drew ?_ | refine blk_alloc ?_ _)); refine blk_far ?_ NB229_235.out _; (with_reducible repeat (first | refine blk_drewN ?_ _ | refine blk_drew ?_ | refine blk_alloc ?_ _)); refine blk_far ?_ NB229_235.out _; (with_reducible repeat (first | refine blk_drewN ?_ _ | refine blk_drew ?_ | refine blk_alloc ?_ _)); refine blk_far ?_ NB229_235.out _; (with_reducible repeat (first | refine blk_drewN ?_ _ | refine blk_drew ?_ | refine blk_alloc ?_ _)); exact BK229.out⟩, ⟨by (with_reducible repeat (first | refine blk_drewN ?_ _ | refine blk_drew ?_ | refine blk_alloc ?_ _)); refine blk_put (cs := #[.string t230, .int .i64 t231, .int .i64 0]) ?_ 2 _ rfl; (with_reducible repeat (first | refine blk_drewN ?_ _ | refine blk_drew ?_ | refine blk_alloc ?_ _)); refine blk_put (cs := #[.string t230, .int .i64 0, .int .i64 0]) ?_ 1 _ rfl; (with_reducible repeat (first | refine blk_drewN ?_ _ | refine blk_drew ?_ | refine blk_alloc ?_ _)); refine blk_put (cs := #[.string (⟨#[]⟩ : ByteArray), .int .i64 0, .int .i64 0]) ?_ 0 _ rfl; (with_reducible repeat (first | refine blk_drewN ?_ _ | refine blk_drew ?_ | refine blk_alloc ?_ _)); exact BK235.out⟩, ⟨by repeat (first | (with_reducible first | exact HB.out | apply below_alloc | apply pw_below_drewN | apply below_drew1 | refine below_set ?_ GE222.out | refine below_set ?_ GE229.out | refine below_set ?_ GE235.out) | exact HB.out)⟩⟩
        case rest =>
          clear HC18
          try clear c1
          try clear c2
          try clear p2
          try clear c3
          try clear c4
          try clear c5
          try clear c6
          try clear p6
          try clear c7
          try clear c8
          try clear c8b0
          try clear c8b1
          try clear c10
          try clear c14
          try clear c15
          try clear c16
          try clear c22
          try clear c27
          try clear c28
          try clear c30
          try clear c30b0
          try clear c30b1
          try clear c31
          try clear c31b0
          try clear c31b1
          try clear c32
          try clear c32b0
          try clear c32b1
          try clear c33
          try clear c34
          try clear c36
          try clear c36b0
          try clear c36b1
          try clear c37
          try clear c38
          try clear c40
          try clear c40b0
          try clear c40b1
          try clear c41
          try clear c41b0
          try clear c41b1
          try clear c42
          try clear c43
          try clear c45
          try clear c46
          try clear c48
          try clear c49
          try clear c51
          try clear c52
          try clear c54
          try clear c54b0
          try clear c54b1
          try clear c55
          try clear c55b0
          try clear c55b1
          try clear c56
          try clear c56b0
          try clear c56b1
          try clear c57
          try clear c58
          try clear c60
          try clear c61
          try clear hcz11_0
          try clear hcz11_1
          try clear hcz11_2
          try clear hcz13_0
          try clear hcz13_1
          try clear hcz13_2
          try clear hcz19_0
          try clear hcz19_1
          try clear hcz19_2
          try clear hcz23_0
          try clear hcz23_1
          try clear hcz23_2
          try clear hcz24_0
          try clear hcz24_1
          try clear hcz24_2
          try clear hcz29_0
          try clear hcz29_1
          try clear hcz29_2
          try clear hcz35_0
          try clear hcz35_1
          try clear hcz35_2
          try clear hcz39_0
          try clear hcz39_1
          try clear hcz39_2
          try clear hcz44_0
          try clear hcz44_1
          try clear hcz44_2
          try clear hcz47_0
          try clear hcz47_1
          try clear hcz47_2
          try clear hcz50_0
          try clear hcz50_1
          try clear hcz50_2
          try clear hcz53_0
          try clear hcz53_1
          try clear hcz53_2
          try clear hcz59_0
          try clear hcz59_1
          try clear hcz59_2
          try clear hcz62_0
          try clear hcz62_1
          try clear hcz62_2
          try clear hcz9_0
          try clear hcz9_1
          try clear hcz9_2
          try clear hfz11_0
          try clear hfz11_1
          try clear hfz11_2
          try clear hfz13_0
          try clear hfz13_1
          try clear hfz13_2
          try clear hfz19_0
          try clear hfz19_1
          try clear hfz19_2
          try clear hfz23_0
          try clear hfz23_1
          try clear hfz23_2
          try clear hfz24_0
          try clear hfz24_1
          try clear hfz24_2
          try clear hfz29_0
          try clear hfz29_1
          try clear hfz29_2
          try clear hfz35_0
          try clear hfz35_1
          try clear hfz35_2
          try clear hfz39_0
          try clear hfz39_1
          try clear hfz39_2
          try clear hfz44_0
          try clear hfz44_1
          try clear hfz44_2
          try clear hfz47_0
          try clear hfz47_1
          try clear hfz47_2
          try clear hfz50_0
          try clear hfz50_1
          try clear hfz50_2
          try clear hfz53_0
          try clear hfz53_1
          try clear hfz53_2
          try clear hfz59_0
          try clear hfz59_1
          try clear hfz59_2
          try clear hfz62_0
          try clear hfz62_1
          try clear hfz62_2
          try clear hfz9_0
          try clear hfz9_1
          try clear hfz9_2
          try clear p2
          obtain ⟨kq, x73_17, rfl, HA, HJ17, BK222, BK229, BK235, HB⟩ := hcut
          cases kq with
          | zero => exact absurd HA.out (by simp [emulatorlaw42_PipeWaits.j1])
          | succ kj17 =>
            have H := HA.out
            clear HA
            simp only [emulatorlaw42_PipeWaits.j1] at H
            by_cases c63 : x73_17 = true
            · subst c63
              have H1 : (some false) = some r := by rw [if_pos rfl] at H; exact H
              clear H
              have H := H1
              clear H1
              exact absurd (H.trans (congrArg some hr_.out)) (by decide)
            · replace c63 := Bool.eq_false_iff.mpr c63
              subst c63
              have H1 : (if t234 = 20 then (if (a0_0.size : Int) < 64 then (some false) else (if a0_1 = 0 then (some false) else (if a0_2 = 0 then (some false) else (if t234 = 0 then (if t233 < 1 then (some false) else (if t228 = 0 then ((emulatorlaw42_alive.f kj17).bind fun t236 => (some t236)) else (if (t224.toList == ([] : List UInt8) && (t225 == 0 && (t226 == 0))) = true then (if t227.toList = ([] : List UInt8) then ((emulatorlaw42_alive.f kj17).bind fun t237 => (some t237)) else (some false)) else (some false)))) else (if t228 = 0 then (if (t230.toList == ([] : List UInt8) && (t231 == 0 && (t232 == 0))) = true then (if t233 = 0 then ((emulatorlaw42_alive.f kj17).bind fun t238 => (some t238)) else (some false)) else (some false)) else (if (t224.toList == ([] : List UInt8) && (t225 == 0 && (t226 == 0))) = true then (if t227.toList = ([] : List UInt8) then (if (t230.toList == ([] : List UInt8) && (t231 == 0 && (t232 == 0))) = true then (if t233 = 0 then ((emulatorlaw42_alive.f kj17).bind fun t239 => (some t239)) else (some false)) else (some false)) else (some false)) else (some false))))))) else (if t234 = 0 then (if t233 < 1 then (some false) else (if t228 = 0 then ((emulatorlaw42_alive.f kj17).bind fun t240 => (some t240)) else (if (t224.toList == ([] : List UInt8) && (t225 == 0 && (t226 == 0))) = true then (if t227.toList = ([] : List UInt8) then ((emulatorlaw42_alive.f kj17).bind fun t241 => (some t241)) else (some false)) else (some false)))) else (if t228 = 0 then (if (t230.toList == ([] : List UInt8) && (t231 == 0 && (t232 == 0))) = true then (if t233 = 0 then ((emulatorlaw42_alive.f kj17).bind fun t242 => (some t242)) else (some false)) else (some false)) else (if (t224.toList == ([] : List UInt8) && (t225 == 0 && (t226 == 0))) = true then (if t227.toList = ([] : List UInt8) then (if (t230.toList == ([] : List UInt8) && (t231 == 0 && (t232 == 0))) = true then (if t233 = 0 then ((emulatorlaw42_alive.f kj17).bind fun t243 => (some t243)) else (some false)) else (some false)) else (some false)) else (some false))))) = some r := by rw [if_neg (show ¬ (false = true) by decide)] at H; exact H
              clear H
              have H := H1
              clear H1
              by_cases c64 : t234 = 20
              · rw [if_pos c64] at H
                have c64b0 : (t234 == 20) = true := beq_iff_eq.mpr c64
                have c64b1 : (t234 != 20) = false := bne_eq_false_iff_eq.mpr c64
                clear c64
                by_cases c65 : (a0_0.size : Int) < 64
                · rw [if_pos c65] at H
                  exact absurd (H.trans (congrArg some hr_.out)) (by decide)
                · rw [if_neg c65] at H
                  have c65b0 : decide ((a0_0.size : Int) < 64) = false := decide_eq_false c65
                  have c65b1 : decide (a0_0.size < 64) = false := decide_eq_false (by omega)
                  clear c65
                  by_cases c69 : a0_1 = 0
                  · rw [if_pos c69] at H
                    exact absurd (H.trans (congrArg some hr_.out)) (by decide)
                  · rw [if_neg c69] at H
                    have c69b0 : (a0_1 == 0) = false := beq_eq_false_iff_ne.mpr c69
                    have c69b1 : (a0_1 != 0) = true := bne_iff_ne.mpr c69
                    by_cases c73 : a0_2 = 0
                    · rw [if_pos c73] at H
                      exact absurd (H.trans (congrArg some hr_.out)) (by decide)
                    · rw [if_neg c73] at H
                      have c73b0 : (a0_2 == 0) = false := beq_eq_false_iff_ne.mpr c73
                      have c73b1 : (a0_2 != 0) = true := bne_iff_ne.mpr c73
                      by_cases c77 : t234 = 0
                      · rw [if_pos c77] at H
                        have c77b0 : (t234 == 0) = true := beq_iff_eq.mpr c77
                        have c77b1 : (t234 != 0) = false := bne_eq_false_iff_eq.mpr c77
                        clear c77
                        by_cases c78 : t233 < 1
                        · rw [if_pos c78] at H
                          exact absurd (H.trans (congrArg some hr_.out)) (by decide)
                        · rw [if_neg c78] at H
                          have c78b0 : decide (t233 < 1) = false := decide_eq_false c78
                          clear c78
                          by_cases c82 : t228 = 0
                          · rw [if_pos c82] at H
                            have c82b0 : (t228 == 0) = true := beq_iff_eq.mpr c82
                            have c82b1 : (t228 != 0) = false := bne_eq_false_iff_eq.mpr c82
                            clear c82
                            replace H := Option.bind_eq_some_iff.mp H
                            obtain ⟨t236, A830, H⟩ := H
                            replace H : (some t236) = some r := H
                            have A83 := Aside0.mk A830
                            clear A830
                            obtain rfl := Option.some.inj H
                            have hnb84 := NB222_229.out
                            have hnc84 := NB229_222.out
                            have hnb85 := NB222_235.out
                            have hnc85 := NB235_222.out
                            have hcz86_0 : wc.cell? ⟨gb222, 0, none⟩ = some (.string a0_0) := (blk_cell BK222.out 0).trans rfl
                            have hcz86_1 : wc.cell? ⟨gb222, 1, none⟩ = some (.int .i64 a0_1) := (blk_cell BK222.out 1).trans rfl
                            have hcz86_2 : wc.cell? ⟨gb222, 2, none⟩ = some (.int .i64 a0_2) := (blk_cell BK222.out 2).trans rfl
                            have hfz86_0 := blk_frozen BK222.out 0
                            have hfz86_1 := blk_frozen BK222.out 1
                            have hfz86_2 := blk_frozen BK222.out 2
                            go_wp2_with (first | (go_at_call 13; (with_reducible refine (emulatorlaw42_alive.calls kj17  t236 _ A83.out).mono ?_); rintro e w87 ⟨rfl, hb⟩; have n0_ := Aside0.mk (blk_below (g := gb222) (o := .cells #[.string a0_0, .int .i64 a0_1, .int .i64 a0_2] 23 (0, 0)) (by (with_reducible repeat (first | refine blk_drewN ?_ _ | refine blk_drew ?_ | refine blk_alloc ?_ _)); exact BK222.out) hb); have n1_ := Aside0.mk (blk_below (g := gb229) (o := .cells #[.string t224, .int .i64 t225, .int .i64 t226] 23 (0, 0)) (by (with_reducible repeat (first | refine blk_drewN ?_ _ | refine blk_drew ?_ | refine blk_alloc ?_ _)); exact BK229.out) hb); have n2_ := Aside0.mk (blk_below (g := gb235) (o := .cells #[.string t230, .int .i64 t231, .int .i64 t232] 23 (0, 0)) (by (with_reducible repeat (first | refine blk_drewN ?_ _ | refine blk_drew ?_ | refine blk_alloc ?_ _)); exact BK235.out) hb); have n3_ := Aside0.mk (below_step (by repeat (first | (with_reducible first | exact HB.out | apply below_alloc | apply pw_below_drewN | apply below_drew1 | refine below_set ?_ GE222.out | refine below_set ?_ GE229.out | refine below_set ?_ GE235.out) | exact HB.out)) hb); clear BK222; clear BK229; clear BK235; clear HB; have BK222 := n0_; have BK229 := n1_; have BK235 := n2_; have HB := n3_; clear n0_ n1_ n2_ n3_; (try clear hb); (try clear hb2); (try clear hk); (try clear hi)))
                            go_ret
                            exact ⟨by first | rfl | (simp [errW_none, errW_some] <;> rfl) | (simp [*, errW_none, errW_some] <;> rfl), by repeat (first | (with_reducible first | exact HB.out | apply below_alloc | apply pw_below_drewN | apply below_drew1 | refine below_set ?_ GE222.out | refine below_set ?_ GE229.out | refine below_set ?_ GE235.out) | exact HB.out)⟩
                          · rw [if_neg c82] at H
                            have c82b0 : (t228 == 0) = false := beq_eq_false_iff_ne.mpr c82
                            have c82b1 : (t228 != 0) = true := bne_iff_ne.mpr c82
                            by_cases c88 : (t224.toList == ([] : List UInt8) && (t225 == 0 && (t226 == 0))) = true
                            · rw [if_pos c88] at H
                              have c88b0 : (t224.toList == ([] : List UInt8) && (t225 == 0 && (t226 == 0))) = true := c88
                              (try (have c88b1 : decide (t224.toList = ([] : List UInt8) && (t225 == 0 && (t226 == 0))) = true := by simpa using c88))
                              (try (have c88b2 : (t224.toList == ([] : List UInt8) && (t225 == 0 && (t226 == 0))) = true := by simpa using c88))
                              clear c88
                              obtain ⟨hz1, hz2, hz3⟩ : t224.toList = [] ∧ t225 = 0 ∧ t226 = 0 := by simpa using c88b0
                              subst hz2 hz3
                              obtain rfl : t224 = (⟨#[]⟩ : ByteArray) := by rw [ByteArray.toList_eq] at hz1; cases t224; simp_all
                              clear hz1
                              (try clear c88b0)
                              (try clear c88b1)
                              (try clear c88b2)
                              by_cases c89 : t227.toList = ([] : List UInt8)
                              · rw [if_pos c89] at H
                                have c89b0 : (t227.toList == ([] : List UInt8)) = true := beq_iff_eq.mpr c89
                                have c89b1 : (t227.toList != ([] : List UInt8)) = false := bne_eq_false_iff_eq.mpr c89
                                clear c89
                                replace H := Option.bind_eq_some_iff.mp H
                                obtain ⟨t237, A900, H⟩ := H
                                replace H : (some t237) = some r := H
                                have A90 := Aside0.mk A900
                                clear A900
                                obtain rfl := Option.some.inj H
                                have hnb91 := NB222_229.out
                                have hnc91 := NB229_222.out
                                have hnb92 := NB222_235.out
                                have hnc92 := NB235_222.out
                                have hcz93_0 : wc.cell? ⟨gb222, 0, none⟩ = some (.string a0_0) := (blk_cell BK222.out 0).trans rfl
                                have hcz93_1 : wc.cell? ⟨gb222, 1, none⟩ = some (.int .i64 a0_1) := (blk_cell BK222.out 1).trans rfl
                                have hcz93_2 : wc.cell? ⟨gb222, 2, none⟩ = some (.int .i64 a0_2) := (blk_cell BK222.out 2).trans rfl
                                have hfz93_0 := blk_frozen BK222.out 0
                                have hfz93_1 := blk_frozen BK222.out 1
                                have hfz93_2 := blk_frozen BK222.out 2
                                have hnb94 := NB229_235.out
                                have hnc94 := NB235_229.out
                                have hcz95_0 : wc.cell? ⟨gb229, 0, none⟩ = some (.string (⟨#[]⟩ : ByteArray)) := (blk_cell BK229.out 0).trans rfl
                                have hcz95_1 : wc.cell? ⟨gb229, 1, none⟩ = some (.int .i64 (0 : Int)) := (blk_cell BK229.out 1).trans rfl
                                have hcz95_2 : wc.cell? ⟨gb229, 2, none⟩ = some (.int .i64 (0 : Int)) := (blk_cell BK229.out 2).trans rfl
                                have hfz95_0 := blk_frozen BK229.out 0
                                have hfz95_1 := blk_frozen BK229.out 1
                                have hfz95_2 := blk_frozen BK229.out 2
                                go_wp2_with (first | (go_at_call 13; (with_reducible refine (emulatorlaw42_alive.calls kj17  t237 _ A90.out).mono ?_); rintro e w96 ⟨rfl, hb⟩; have n0_ := Aside0.mk (blk_below (g := gb222) (o := .cells #[.string a0_0, .int .i64 a0_1, .int .i64 a0_2] 23 (0, 0)) (by (with_reducible repeat (first | refine blk_drewN ?_ _ | refine blk_drew ?_ | refine blk_alloc ?_ _)); exact BK222.out) hb); have n1_ := Aside0.mk (blk_below (g := gb229) (o := .cells #[.string (⟨#[]⟩ : ByteArray), .int .i64 (0 : Int), .int .i64 (0 : Int)] 23 (0, 0)) (by (with_reducible repeat (first | refine blk_drewN ?_ _ | refine blk_drew ?_ | refine blk_alloc ?_ _)); exact BK229.out) hb); have n2_ := Aside0.mk (blk_below (g := gb235) (o := .cells #[.string t230, .int .i64 t231, .int .i64 t232] 23 (0, 0)) (by (with_reducible repeat (first | refine blk_drewN ?_ _ | refine blk_drew ?_ | refine blk_alloc ?_ _)); exact BK235.out) hb); have n3_ := Aside0.mk (below_step (by repeat (first | (with_reducible first | exact HB.out | apply below_alloc | apply pw_below_drewN | apply below_drew1 | refine below_set ?_ GE222.out | refine below_set ?_ GE229.out | refine below_set ?_ GE235.out) | exact HB.out)) hb); clear BK222; clear BK229; clear BK235; clear HB; have BK222 := n0_; have BK229 := n1_; have BK235 := n2_; have HB := n3_; clear n0_ n1_ n2_ n3_; (try clear hb); (try clear hb2); (try clear hk); (try clear hi)))
                                go_ret
                                exact ⟨by first | rfl | (simp [errW_none, errW_some] <;> rfl) | (simp [*, errW_none, errW_some] <;> rfl), by repeat (first | (with_reducible first | exact HB.out | apply below_alloc | apply pw_below_drewN | apply below_drew1 | refine below_set ?_ GE222.out | refine below_set ?_ GE229.out | refine below_set ?_ GE235.out) | exact HB.out)⟩
                              · rw [if_neg c89] at H
                                exact absurd (H.trans (congrArg some hr_.out)) (by decide)
                            · rw [if_neg c88] at H
                              exact absurd (H.trans (congrArg some hr_.out)) (by decide)
                      · rw [if_neg c77] at H
                        have c77b0 : (t234 == 0) = false := beq_eq_false_iff_ne.mpr c77
                        have c77b1 : (t234 != 0) = true := bne_iff_ne.mpr c77
                        by_cases c107 : t228 = 0
                        · rw [if_pos c107] at H
                          have c107b0 : (t228 == 0) = true := beq_iff_eq.mpr c107
                          have c107b1 : (t228 != 0) = false := bne_eq_false_iff_eq.mpr c107
                          clear c107
                          by_cases c108 : (t230.toList == ([] : List UInt8) && (t231 == 0 && (t232 == 0))) = true
                          · rw [if_pos c108] at H
                            have c108b0 : (t230.toList == ([] : List UInt8) && (t231 == 0 && (t232 == 0))) = true := c108
                            (try (have c108b1 : decide (t230.toList = ([] : List UInt8) && (t231 == 0 && (t232 == 0))) = true := by simpa using c108))
                            (try (have c108b2 : (t230.toList == ([] : List UInt8) && (t231 == 0 && (t232 == 0))) = true := by simpa using c108))
                            clear c108
                            obtain ⟨hz1, hz2, hz3⟩ : t230.toList = [] ∧ t231 = 0 ∧ t232 = 0 := by simpa using c108b0
                            subst hz2 hz3
                            obtain rfl : t230 = (⟨#[]⟩ : ByteArray) := by rw [ByteArray.toList_eq] at hz1; cases t230; simp_all
                            clear hz1
                            (try clear c108b0)
                            (try clear c108b1)
                            (try clear c108b2)
                            by_cases c109 : t233 = 0
                            · rw [if_pos c109] at H
                              have c109b0 : (t233 == 0) = true := beq_iff_eq.mpr c109
                              have c109b1 : (t233 != 0) = false := bne_eq_false_iff_eq.mpr c109
                              clear c109
                              replace H := Option.bind_eq_some_iff.mp H
                              obtain ⟨t238, A1100, H⟩ := H
                              replace H : (some t238) = some r := H
                              have A110 := Aside0.mk A1100
                              clear A1100
                              obtain rfl := Option.some.inj H
                              have hnb111 := NB222_229.out
                              have hnc111 := NB229_222.out
                              have hnb112 := NB222_235.out
                              have hnc112 := NB235_222.out
                              have hcz113_0 : wc.cell? ⟨gb222, 0, none⟩ = some (.string a0_0) := (blk_cell BK222.out 0).trans rfl
                              have hcz113_1 : wc.cell? ⟨gb222, 1, none⟩ = some (.int .i64 a0_1) := (blk_cell BK222.out 1).trans rfl
                              have hcz113_2 : wc.cell? ⟨gb222, 2, none⟩ = some (.int .i64 a0_2) := (blk_cell BK222.out 2).trans rfl
                              have hfz113_0 := blk_frozen BK222.out 0
                              have hfz113_1 := blk_frozen BK222.out 1
                              have hfz113_2 := blk_frozen BK222.out 2
                              have hnb114 := NB235_229.out
                              have hnc114 := NB229_235.out
                              have hcz115_0 : wc.cell? ⟨gb235, 0, none⟩ = some (.string (⟨#[]⟩ : ByteArray)) := (blk_cell BK235.out 0).trans rfl
                              have hcz115_1 : wc.cell? ⟨gb235, 1, none⟩ = some (.int .i64 (0 : Int)) := (blk_cell BK235.out 1).trans rfl
                              have hcz115_2 : wc.cell? ⟨gb235, 2, none⟩ = some (.int .i64 (0 : Int)) := (blk_cell BK235.out 2).trans rfl
                              have hfz115_0 := blk_frozen BK235.out 0
                              have hfz115_1 := blk_frozen BK235.out 1
                              have hfz115_2 := blk_frozen BK235.out 2
                              go_wp2_with (first | (go_at_call 13; (with_reducible refine (emulatorlaw42_alive.calls kj17  t238 _ A110.out).mono ?_); rintro e w116 ⟨rfl, hb⟩; have n0_ := Aside0.mk (blk_below (g := gb222) (o := .cells #[.string a0_0, .int .i64 a0_1, .int .i64 a0_2] 23 (0, 0)) (by (with_reducible repeat (first | refine blk_drewN ?_ _ | refine blk_drew ?_ | refine blk_alloc ?_ _)); exact BK222.out) hb); have n1_ := Aside0.mk (blk_below (g := gb229) (o := .cells #[.string t224, .int .i64 t225, .int .i64 t226] 23 (0, 0)) (by (with_reducible repeat (first | refine blk_drewN ?_ _ | refine blk_drew ?_ | refine blk_alloc ?_ _)); exact BK229.out) hb); have n2_ := Aside0.mk (blk_below (g := gb235) (o := .cells #[.string (⟨#[]⟩ : ByteArray), .int .i64 (0 : Int), .int .i64 (0 : Int)] 23 (0, 0)) (by (with_reducible repeat (first | refine blk_drewN ?_ _ | refine blk_drew ?_ | refine blk_alloc ?_ _)); exact BK235.out) hb); have n3_ := Aside0.mk (below_step (by repeat (first | (with_reducible first | exact HB.out | apply below_alloc | apply pw_below_drewN | apply below_drew1 | refine below_set ?_ GE222.out | refine below_set ?_ GE229.out | refine below_set ?_ GE235.out) | exact HB.out)) hb); clear BK222; clear BK229; clear BK235; clear HB; have BK222 := n0_; have BK229 := n1_; have BK235 := n2_; have HB := n3_; clear n0_ n1_ n2_ n3_; (try clear hb); (try clear hb2); (try clear hk); (try clear hi)))
                              go_ret
                              exact ⟨by first | rfl | (simp [errW_none, errW_some] <;> rfl) | (simp [*, errW_none, errW_some] <;> rfl), by repeat (first | (with_reducible first | exact HB.out | apply below_alloc | apply pw_below_drewN | apply below_drew1 | refine below_set ?_ GE222.out | refine below_set ?_ GE229.out | refine below_set ?_ GE235.out) | exact HB.out)⟩
                            · rw [if_neg c109] at H
                              exact absurd (H.trans (congrArg some hr_.out)) (by decide)
                          · rw [if_neg c108] at H
                            exact absurd (H.trans (congrArg some hr_.out)) (by decide)
                        · rw [if_neg c107] at H
                          have c107b0 : (t228 == 0) = false := beq_eq_false_iff_ne.mpr c107
                          have c107b1 : (t228 != 0) = true := bne_iff_ne.mpr c107
                          by_cases c127 : (t224.toList == ([] : List UInt8) && (t225 == 0 && (t226 == 0))) = true
                          · rw [if_pos c127] at H
                            have c127b0 : (t224.toList == ([] : List UInt8) && (t225 == 0 && (t226 == 0))) = true := c127
                            (try (have c127b1 : decide (t224.toList = ([] : List UInt8) && (t225 == 0 && (t226 == 0))) = true := by simpa using c127))
                            (try (have c127b2 : (t224.toList == ([] : List UInt8) && (t225 == 0 && (t226 == 0))) = true := by simpa using c127))
                            clear c127
                            obtain ⟨hz1, hz2, hz3⟩ : t224.toList = [] ∧ t225 = 0 ∧ t226 = 0 := by simpa using c127b0
                            subst hz2 hz3
                            obtain rfl : t224 = (⟨#[]⟩ : ByteArray) := by rw [ByteArray.toList_eq] at hz1; cases t224; simp_all
                            clear hz1
                            (try clear c127b0)
                            (try clear c127b1)
                            (try clear c127b2)
                            by_cases c128 : t227.toList = ([] : List UInt8)
                            · rw [if_pos c128] at H
                              have c128b0 : (t227.toList == ([] : List UInt8)) = true := beq_iff_eq.mpr c128
                              have c128b1 : (t227.toList != ([] : List UInt8)) = false := bne_eq_false_iff_eq.mpr c128
                              clear c128
                              by_cases c129 : (t230.toList == ([] : List UInt8) && (t231 == 0 && (t232 == 0))) = true
                              · rw [if_pos c129] at H
                                have c129b0 : (t230.toList == ([] : List UInt8) && (t231 == 0 && (t232 == 0))) = true := c129
                                (try (have c129b1 : decide (t230.toList = ([] : List UInt8) && (t231 == 0 && (t232 == 0))) = true := by simpa using c129))
                                (try (have c129b2 : (t230.toList == ([] : List UInt8) && (t231 == 0 && (t232 == 0))) = true := by simpa using c129))
                                clear c129
                                obtain ⟨hz1, hz2, hz3⟩ : t230.toList = [] ∧ t231 = 0 ∧ t232 = 0 := by simpa using c129b0
                                subst hz2 hz3
                                obtain rfl : t230 = (⟨#[]⟩ : ByteArray) := by rw [ByteArray.toList_eq] at hz1; cases t230; simp_all
                                clear hz1
                                (try clear c129b0)
                                (try clear c129b1)
                                (try clear c129b2)
                                by_cases c130 : t233 = 0
                                · rw [if_pos c130] at H
                                  have c130b0 : (t233 == 0) = true := beq_iff_eq.mpr c130
                                  have c130b1 : (t233 != 0) = false := bne_eq_false_iff_eq.mpr c130
                                  clear c130
                                  replace H := Option.bind_eq_some_iff.mp H
                                  obtain ⟨t239, A1310, H⟩ := H
                                  replace H : (some t239) = some r := H
                                  have A131 := Aside0.mk A1310
                                  clear A1310
                                  obtain rfl := Option.some.inj H
                                  have hnb132 := NB222_229.out
                                  have hnc132 := NB229_222.out
                                  have hnb133 := NB222_235.out
                                  have hnc133 := NB235_222.out
                                  have hcz134_0 : wc.cell? ⟨gb222, 0, none⟩ = some (.string a0_0) := (blk_cell BK222.out 0).trans rfl
                                  have hcz134_1 : wc.cell? ⟨gb222, 1, none⟩ = some (.int .i64 a0_1) := (blk_cell BK222.out 1).trans rfl
                                  have hcz134_2 : wc.cell? ⟨gb222, 2, none⟩ = some (.int .i64 a0_2) := (blk_cell BK222.out 2).trans rfl
                                  have hfz134_0 := blk_frozen BK222.out 0
                                  have hfz134_1 := blk_frozen BK222.out 1
                                  have hfz134_2 := blk_frozen BK222.out 2
                                  have hnb135 := NB229_235.out
                                  have hnc135 := NB235_229.out
                                  have hcz136_0 : wc.cell? ⟨gb229, 0, none⟩ = some (.string (⟨#[]⟩ : ByteArray)) := (blk_cell BK229.out 0).trans rfl
                                  have hcz136_1 : wc.cell? ⟨gb229, 1, none⟩ = some (.int .i64 (0 : Int)) := (blk_cell BK229.out 1).trans rfl
                                  have hcz136_2 : wc.cell? ⟨gb229, 2, none⟩ = some (.int .i64 (0 : Int)) := (blk_cell BK229.out 2).trans rfl
                                  have hfz136_0 := blk_frozen BK229.out 0
                                  have hfz136_1 := blk_frozen BK229.out 1
                                  have hfz136_2 := blk_frozen BK229.out 2
                                  have hcz137_0 : wc.cell? ⟨gb235, 0, none⟩ = some (.string (⟨#[]⟩ : ByteArray)) := (blk_cell BK235.out 0).trans rfl
                                  have hcz137_1 : wc.cell? ⟨gb235, 1, none⟩ = some (.int .i64 (0 : Int)) := (blk_cell BK235.out 1).trans rfl
                                  have hcz137_2 : wc.cell? ⟨gb235, 2, none⟩ = some (.int .i64 (0 : Int)) := (blk_cell BK235.out 2).trans rfl
                                  have hfz137_0 := blk_frozen BK235.out 0
                                  have hfz137_1 := blk_frozen BK235.out 1
                                  have hfz137_2 := blk_frozen BK235.out 2
                                  go_wp2_with (first | (go_at_call 13; (with_reducible refine (emulatorlaw42_alive.calls kj17  t239 _ A131.out).mono ?_); rintro e w138 ⟨rfl, hb⟩; have n0_ := Aside0.mk (blk_below (g := gb222) (o := .cells #[.string a0_0, .int .i64 a0_1, .int .i64 a0_2] 23 (0, 0)) (by (with_reducible repeat (first | refine blk_drewN ?_ _ | refine blk_drew ?_ | refine blk_alloc ?_ _)); exact BK222.out) hb); have n1_ := Aside0.mk (blk_below (g := gb229) (o := .cells #[.string (⟨#[]⟩ : ByteArray), .int .i64 (0 : Int), .int .i64 (0 : Int)] 23 (0, 0)) (by (with_reducible repeat (first | refine blk_drewN ?_ _ | refine blk_drew ?_ | refine blk_alloc ?_ _)); exact BK229.out) hb); have n2_ := Aside0.mk (blk_below (g := gb235) (o := .cells #[.string (⟨#[]⟩ : ByteArray), .int .i64 (0 : Int), .int .i64 (0 : Int)] 23 (0, 0)) (by (with_reducible repeat (first | refine blk_drewN ?_ _ | refine blk_drew ?_ | refine blk_alloc ?_ _)); exact BK235.out) hb); have n3_ := Aside0.mk (below_step (by repeat (first | (with_reducible first | exact HB.out | apply below_alloc | apply pw_below_drewN | apply below_drew1 | refine below_set ?_ GE222.out | refine below_set ?_ GE229.out | refine below_set ?_ GE235.out) | exact HB.out)) hb); clear BK222; clear BK229; clear BK235; clear HB; have BK222 := n0_; have BK229 := n1_; have BK235 := n2_; have HB := n3_; clear n0_ n1_ n2_ n3_; (try clear hb); (try clear hb2); (try clear hk); (try clear hi)))
                                  go_ret
                                  exact ⟨by first | rfl | (simp [errW_none, errW_some] <;> rfl) | (simp [*, errW_none, errW_some] <;> rfl), by repeat (first | (with_reducible first | exact HB.out | apply below_alloc | apply pw_below_drewN | apply below_drew1 | refine below_set ?_ GE222.out | refine below_set ?_ GE229.out | refine below_set ?_ GE235.out) | exact HB.out)⟩
                                · rw [if_neg c130] at H
                                  exact absurd (H.trans (congrArg some hr_.out)) (by decide)
                              · rw [if_neg c129] at H
                                exact absurd (H.trans (congrArg some hr_.out)) (by decide)
                            · rw [if_neg c128] at H
                              exact absurd (H.trans (congrArg some hr_.out)) (by decide)
                          · rw [if_neg c127] at H
                            exact absurd (H.trans (congrArg some hr_.out)) (by decide)
              · rw [if_neg c64] at H
                have c64b0 : (t234 == 20) = false := beq_eq_false_iff_ne.mpr c64
                have c64b1 : (t234 != 20) = true := bne_iff_ne.mpr c64
                by_cases c161 : t234 = 0
                · rw [if_pos c161] at H
                  have c161b0 : (t234 == 0) = true := beq_iff_eq.mpr c161
                  have c161b1 : (t234 != 0) = false := bne_eq_false_iff_eq.mpr c161
                  clear c161
                  by_cases c162 : t233 < 1
                  · rw [if_pos c162] at H
                    exact absurd (H.trans (congrArg some hr_.out)) (by decide)
                  · rw [if_neg c162] at H
                    have c162b0 : decide (t233 < 1) = false := decide_eq_false c162
                    clear c162
                    by_cases c163 : t228 = 0
                    · rw [if_pos c163] at H
                      have c163b0 : (t228 == 0) = true := beq_iff_eq.mpr c163
                      have c163b1 : (t228 != 0) = false := bne_eq_false_iff_eq.mpr c163
                      clear c163
                      replace H := Option.bind_eq_some_iff.mp H
                      obtain ⟨t240, A1640, H⟩ := H
                      replace H : (some t240) = some r := H
                      have A164 := Aside0.mk A1640
                      clear A1640
                      obtain rfl := Option.some.inj H
                      go_wp2_with (first | (go_at_call 13; (with_reducible refine (emulatorlaw42_alive.calls kj17  t240 _ A164.out).mono ?_); rintro e w165 ⟨rfl, hb⟩; have n0_ := Aside0.mk (blk_below (g := gb222) (o := .cells #[.string a0_0, .int .i64 a0_1, .int .i64 a0_2] 23 (0, 0)) (by (with_reducible repeat (first | refine blk_drewN ?_ _ | refine blk_drew ?_ | refine blk_alloc ?_ _)); exact BK222.out) hb); have n1_ := Aside0.mk (blk_below (g := gb229) (o := .cells #[.string t224, .int .i64 t225, .int .i64 t226] 23 (0, 0)) (by (with_reducible repeat (first | refine blk_drewN ?_ _ | refine blk_drew ?_ | refine blk_alloc ?_ _)); exact BK229.out) hb); have n2_ := Aside0.mk (blk_below (g := gb235) (o := .cells #[.string t230, .int .i64 t231, .int .i64 t232] 23 (0, 0)) (by (with_reducible repeat (first | refine blk_drewN ?_ _ | refine blk_drew ?_ | refine blk_alloc ?_ _)); exact BK235.out) hb); have n3_ := Aside0.mk (below_step (by repeat (first | (with_reducible first | exact HB.out | apply below_alloc | apply pw_below_drewN | apply below_drew1 | refine below_set ?_ GE222.out | refine below_set ?_ GE229.out | refine below_set ?_ GE235.out) | exact HB.out)) hb); clear BK222; clear BK229; clear BK235; clear HB; have BK222 := n0_; have BK229 := n1_; have BK235 := n2_; have HB := n3_; clear n0_ n1_ n2_ n3_; (try clear hb); (try clear hb2); (try clear hk); (try clear hi)))
                      go_ret
                      exact ⟨by first | rfl | (simp [errW_none, errW_some] <;> rfl) | (simp [*, errW_none, errW_some] <;> rfl), by repeat (first | (with_reducible first | exact HB.out | apply below_alloc | apply pw_below_drewN | apply below_drew1 | refine below_set ?_ GE222.out | refine below_set ?_ GE229.out | refine below_set ?_ GE235.out) | exact HB.out)⟩
                    · rw [if_neg c163] at H
                      have c163b0 : (t228 == 0) = false := beq_eq_false_iff_ne.mpr c163
                      have c163b1 : (t228 != 0) = true := bne_iff_ne.mpr c163
                      by_cases c166 : (t224.toList == ([] : List UInt8) && (t225 == 0 && (t226 == 0))) = true
                      · rw [if_pos c166] at H
                        have c166b0 : (t224.toList == ([] : List UInt8) && (t225 == 0 && (t226 == 0))) = true := c166
                        (try (have c166b1 : decide (t224.toList = ([] : List UInt8) && (t225 == 0 && (t226 == 0))) = true := by simpa using c166))
                        (try (have c166b2 : (t224.toList == ([] : List UInt8) && (t225 == 0 && (t226 == 0))) = true := by simpa using c166))
                        clear c166
                        obtain ⟨hz1, hz2, hz3⟩ : t224.toList = [] ∧ t225 = 0 ∧ t226 = 0 := by simpa using c166b0
                        subst hz2 hz3
                        obtain rfl : t224 = (⟨#[]⟩ : ByteArray) := by rw [ByteArray.toList_eq] at hz1; cases t224; simp_all
                        clear hz1
                        (try clear c166b0)
                        (try clear c166b1)
                        (try clear c166b2)
                        by_cases c167 : t227.toList = ([] : List UInt8)
                        · rw [if_pos c167] at H
                          have c167b0 : (t227.toList == ([] : List UInt8)) = true := beq_iff_eq.mpr c167
                          have c167b1 : (t227.toList != ([] : List UInt8)) = false := bne_eq_false_iff_eq.mpr c167
                          clear c167
                          replace H := Option.bind_eq_some_iff.mp H
                          obtain ⟨t241, A1680, H⟩ := H
                          replace H : (some t241) = some r := H
                          have A168 := Aside0.mk A1680
                          clear A1680
                          obtain rfl := Option.some.inj H
                          have hnb169 := NB229_222.out
                          have hnc169 := NB222_229.out
                          have hnb170 := NB229_235.out
                          have hnc170 := NB235_229.out
                          have hcz171_0 : wc.cell? ⟨gb229, 0, none⟩ = some (.string (⟨#[]⟩ : ByteArray)) := (blk_cell BK229.out 0).trans rfl
                          have hcz171_1 : wc.cell? ⟨gb229, 1, none⟩ = some (.int .i64 (0 : Int)) := (blk_cell BK229.out 1).trans rfl
                          have hcz171_2 : wc.cell? ⟨gb229, 2, none⟩ = some (.int .i64 (0 : Int)) := (blk_cell BK229.out 2).trans rfl
                          have hfz171_0 := blk_frozen BK229.out 0
                          have hfz171_1 := blk_frozen BK229.out 1
                          have hfz171_2 := blk_frozen BK229.out 2
                          go_wp2_with (first | (go_at_call 13; (with_reducible refine (emulatorlaw42_alive.calls kj17  t241 _ A168.out).mono ?_); rintro e w172 ⟨rfl, hb⟩; have n0_ := Aside0.mk (blk_below (g := gb222) (o := .cells #[.string a0_0, .int .i64 a0_1, .int .i64 a0_2] 23 (0, 0)) (by (with_reducible repeat (first | refine blk_drewN ?_ _ | refine blk_drew ?_ | refine blk_alloc ?_ _)); exact BK222.out) hb); have n1_ := Aside0.mk (blk_below (g := gb229) (o := .cells #[.string (⟨#[]⟩ : ByteArray), .int .i64 (0 : Int), .int .i64 (0 : Int)] 23 (0, 0)) (by (with_reducible repeat (first | refine blk_drewN ?_ _ | refine blk_drew ?_ | refine blk_alloc ?_ _)); exact BK229.out) hb); have n2_ := Aside0.mk (blk_below (g := gb235) (o := .cells #[.string t230, .int .i64 t231, .int .i64 t232] 23 (0, 0)) (by (with_reducible repeat (first | refine blk_drewN ?_ _ | refine blk_drew ?_ | refine blk_alloc ?_ _)); exact BK235.out) hb); have n3_ := Aside0.mk (below_step (by repeat (first | (with_reducible first | exact HB.out | apply below_alloc | apply pw_below_drewN | apply below_drew1 | refine below_set ?_ GE222.out | refine below_set ?_ GE229.out | refine below_set ?_ GE235.out) | exact HB.out)) hb); clear BK222; clear BK229; clear BK235; clear HB; have BK222 := n0_; have BK229 := n1_; have BK235 := n2_; have HB := n3_; clear n0_ n1_ n2_ n3_; (try clear hb); (try clear hb2); (try clear hk); (try clear hi)))
                          go_ret
                          exact ⟨by first | rfl | (simp [errW_none, errW_some] <;> rfl) | (simp [*, errW_none, errW_some] <;> rfl), by repeat (first | (with_reducible first | exact HB.out | apply below_alloc | apply pw_below_drewN | apply below_drew1 | refine below_set ?_ GE222.out | refine below_set ?_ GE229.out | refine below_set ?_ GE235.out) | exact HB.out)⟩
                        · rw [if_neg c167] at H
                          exact absurd (H.trans (congrArg some hr_.out)) (by decide)
                      · rw [if_neg c166] at H
                        exact absurd (H.trans (congrArg some hr_.out)) (by decide)
                · rw [if_neg c161] at H
                  have c161b0 : (t234 == 0) = false := beq_eq_false_iff_ne.mpr c161
                  have c161b1 : (t234 != 0) = true := bne_iff_ne.mpr c161
                  by_cases c179 : t228 = 0
                  · rw [if_pos c179] at H
                    have c179b0 : (t228 == 0) = true := beq_iff_eq.mpr c179
                    have c179b1 : (t228 != 0) = false := bne_eq_false_iff_eq.mpr c179
                    clear c179
                    by_cases c180 : (t230.toList == ([] : List UInt8) && (t231 == 0 && (t232 == 0))) = true
                    · rw [if_pos c180] at H
                      have c180b0 : (t230.toList == ([] : List UInt8) && (t231 == 0 && (t232 == 0))) = true := c180
                      (try (have c180b1 : decide (t230.toList = ([] : List UInt8) && (t231 == 0 && (t232 == 0))) = true := by simpa using c180))
                      (try (have c180b2 : (t230.toList == ([] : List UInt8) && (t231 == 0 && (t232 == 0))) = true := by simpa using c180))
                      clear c180
                      obtain ⟨hz1, hz2, hz3⟩ : t230.toList = [] ∧ t231 = 0 ∧ t232 = 0 := by simpa using c180b0
                      subst hz2 hz3
                      obtain rfl : t230 = (⟨#[]⟩ : ByteArray) := by rw [ByteArray.toList_eq] at hz1; cases t230; simp_all
                      clear hz1
                      (try clear c180b0)
                      (try clear c180b1)
                      (try clear c180b2)
                      by_cases c181 : t233 = 0
                      · rw [if_pos c181] at H
                        have c181b0 : (t233 == 0) = true := beq_iff_eq.mpr c181
                        have c181b1 : (t233 != 0) = false := bne_eq_false_iff_eq.mpr c181
                        clear c181
                        replace H := Option.bind_eq_some_iff.mp H
                        obtain ⟨t242, A1820, H⟩ := H
                        replace H : (some t242) = some r := H
                        have A182 := Aside0.mk A1820
                        clear A1820
                        obtain rfl := Option.some.inj H
                        have hnb183 := NB235_222.out
                        have hnc183 := NB222_235.out
                        have hnb184 := NB235_229.out
                        have hnc184 := NB229_235.out
                        have hcz185_0 : wc.cell? ⟨gb235, 0, none⟩ = some (.string (⟨#[]⟩ : ByteArray)) := (blk_cell BK235.out 0).trans rfl
                        have hcz185_1 : wc.cell? ⟨gb235, 1, none⟩ = some (.int .i64 (0 : Int)) := (blk_cell BK235.out 1).trans rfl
                        have hcz185_2 : wc.cell? ⟨gb235, 2, none⟩ = some (.int .i64 (0 : Int)) := (blk_cell BK235.out 2).trans rfl
                        have hfz185_0 := blk_frozen BK235.out 0
                        have hfz185_1 := blk_frozen BK235.out 1
                        have hfz185_2 := blk_frozen BK235.out 2
                        go_wp2_with (first | (go_at_call 13; (with_reducible refine (emulatorlaw42_alive.calls kj17  t242 _ A182.out).mono ?_); rintro e w186 ⟨rfl, hb⟩; have n0_ := Aside0.mk (blk_below (g := gb222) (o := .cells #[.string a0_0, .int .i64 a0_1, .int .i64 a0_2] 23 (0, 0)) (by (with_reducible repeat (first | refine blk_drewN ?_ _ | refine blk_drew ?_ | refine blk_alloc ?_ _)); exact BK222.out) hb); have n1_ := Aside0.mk (blk_below (g := gb229) (o := .cells #[.string t224, .int .i64 t225, .int .i64 t226] 23 (0, 0)) (by (with_reducible repeat (first | refine blk_drewN ?_ _ | refine blk_drew ?_ | refine blk_alloc ?_ _)); exact BK229.out) hb); have n2_ := Aside0.mk (blk_below (g := gb235) (o := .cells #[.string (⟨#[]⟩ : ByteArray), .int .i64 (0 : Int), .int .i64 (0 : Int)] 23 (0, 0)) (by (with_reducible repeat (first | refine blk_drewN ?_ _ | refine blk_drew ?_ | refine blk_alloc ?_ _)); exact BK235.out) hb); have n3_ := Aside0.mk (below_step (by repeat (first | (with_reducible first | exact HB.out | apply below_alloc | apply pw_below_drewN | apply below_drew1 | refine below_set ?_ GE222.out | refine below_set ?_ GE229.out | refine below_set ?_ GE235.out) | exact HB.out)) hb); clear BK222; clear BK229; clear BK235; clear HB; have BK222 := n0_; have BK229 := n1_; have BK235 := n2_; have HB := n3_; clear n0_ n1_ n2_ n3_; (try clear hb); (try clear hb2); (try clear hk); (try clear hi)))
                        go_ret
                        exact ⟨by first | rfl | (simp [errW_none, errW_some] <;> rfl) | (simp [*, errW_none, errW_some] <;> rfl), by repeat (first | (with_reducible first | exact HB.out | apply below_alloc | apply pw_below_drewN | apply below_drew1 | refine below_set ?_ GE222.out | refine below_set ?_ GE229.out | refine below_set ?_ GE235.out) | exact HB.out)⟩
                      · rw [if_neg c181] at H
                        exact absurd (H.trans (congrArg some hr_.out)) (by decide)
                    · rw [if_neg c180] at H
                      exact absurd (H.trans (congrArg some hr_.out)) (by decide)
                  · rw [if_neg c179] at H
                    have c179b0 : (t228 == 0) = false := beq_eq_false_iff_ne.mpr c179
                    have c179b1 : (t228 != 0) = true := bne_iff_ne.mpr c179
                    by_cases c193 : (t224.toList == ([] : List UInt8) && (t225 == 0 && (t226 == 0))) = true
                    · rw [if_pos c193] at H
                      have c193b0 : (t224.toList == ([] : List UInt8) && (t225 == 0 && (t226 == 0))) = true := c193
                      (try (have c193b1 : decide (t224.toList = ([] : List UInt8) && (t225 == 0 && (t226 == 0))) = true := by simpa using c193))
                      (try (have c193b2 : (t224.toList == ([] : List UInt8) && (t225 == 0 && (t226 == 0))) = true := by simpa using c193))
                      clear c193
                      obtain ⟨hz1, hz2, hz3⟩ : t224.toList = [] ∧ t225 = 0 ∧ t226 = 0 := by simpa using c193b0
                      subst hz2 hz3
                      obtain rfl : t224 = (⟨#[]⟩ : ByteArray) := by rw [ByteArray.toList_eq] at hz1; cases t224; simp_all
                      clear hz1
                      (try clear c193b0)
                      (try clear c193b1)
                      (try clear c193b2)
                      by_cases c194 : t227.toList = ([] : List UInt8)
                      · rw [if_pos c194] at H
                        have c194b0 : (t227.toList == ([] : List UInt8)) = true := beq_iff_eq.mpr c194
                        have c194b1 : (t227.toList != ([] : List UInt8)) = false := bne_eq_false_iff_eq.mpr c194
                        clear c194
                        by_cases c195 : (t230.toList == ([] : List UInt8) && (t231 == 0 && (t232 == 0))) = true
                        · rw [if_pos c195] at H
                          have c195b0 : (t230.toList == ([] : List UInt8) && (t231 == 0 && (t232 == 0))) = true := c195
                          (try (have c195b1 : decide (t230.toList = ([] : List UInt8) && (t231 == 0 && (t232 == 0))) = true := by simpa using c195))
                          (try (have c195b2 : (t230.toList == ([] : List UInt8) && (t231 == 0 && (t232 == 0))) = true := by simpa using c195))
                          clear c195
                          obtain ⟨hz1, hz2, hz3⟩ : t230.toList = [] ∧ t231 = 0 ∧ t232 = 0 := by simpa using c195b0
                          subst hz2 hz3
                          obtain rfl : t230 = (⟨#[]⟩ : ByteArray) := by rw [ByteArray.toList_eq] at hz1; cases t230; simp_all
                          clear hz1
                          (try clear c195b0)
                          (try clear c195b1)
                          (try clear c195b2)
                          by_cases c196 : t233 = 0
                          · rw [if_pos c196] at H
                            have c196b0 : (t233 == 0) = true := beq_iff_eq.mpr c196
                            have c196b1 : (t233 != 0) = false := bne_eq_false_iff_eq.mpr c196
                            clear c196
                            replace H := Option.bind_eq_some_iff.mp H
                            obtain ⟨t243, A1970, H⟩ := H
                            replace H : (some t243) = some r := H
                            have A197 := Aside0.mk A1970
                            clear A1970
                            obtain rfl := Option.some.inj H
                            have hnb198 := NB229_222.out
                            have hnc198 := NB222_229.out
                            have hnb199 := NB229_235.out
                            have hnc199 := NB235_229.out
                            have hcz200_0 : wc.cell? ⟨gb229, 0, none⟩ = some (.string (⟨#[]⟩ : ByteArray)) := (blk_cell BK229.out 0).trans rfl
                            have hcz200_1 : wc.cell? ⟨gb229, 1, none⟩ = some (.int .i64 (0 : Int)) := (blk_cell BK229.out 1).trans rfl
                            have hcz200_2 : wc.cell? ⟨gb229, 2, none⟩ = some (.int .i64 (0 : Int)) := (blk_cell BK229.out 2).trans rfl
                            have hfz200_0 := blk_frozen BK229.out 0
                            have hfz200_1 := blk_frozen BK229.out 1
                            have hfz200_2 := blk_frozen BK229.out 2
                            have hnb201 := NB235_222.out
                            have hnc201 := NB222_235.out
                            have hcz202_0 : wc.cell? ⟨gb235, 0, none⟩ = some (.string (⟨#[]⟩ : ByteArray)) := (blk_cell BK235.out 0).trans rfl
                            have hcz202_1 : wc.cell? ⟨gb235, 1, none⟩ = some (.int .i64 (0 : Int)) := (blk_cell BK235.out 1).trans rfl
                            have hcz202_2 : wc.cell? ⟨gb235, 2, none⟩ = some (.int .i64 (0 : Int)) := (blk_cell BK235.out 2).trans rfl
                            have hfz202_0 := blk_frozen BK235.out 0
                            have hfz202_1 := blk_frozen BK235.out 1
                            have hfz202_2 := blk_frozen BK235.out 2
                            go_wp2_with (first | (go_at_call 13; (with_reducible refine (emulatorlaw42_alive.calls kj17  t243 _ A197.out).mono ?_); rintro e w203 ⟨rfl, hb⟩; have n0_ := Aside0.mk (blk_below (g := gb222) (o := .cells #[.string a0_0, .int .i64 a0_1, .int .i64 a0_2] 23 (0, 0)) (by (with_reducible repeat (first | refine blk_drewN ?_ _ | refine blk_drew ?_ | refine blk_alloc ?_ _)); exact BK222.out) hb); have n1_ := Aside0.mk (blk_below (g := gb229) (o := .cells #[.string (⟨#[]⟩ : ByteArray), .int .i64 (0 : Int), .int .i64 (0 : Int)] 23 (0, 0)) (by (with_reducible repeat (first | refine blk_drewN ?_ _ | refine blk_drew ?_ | refine blk_alloc ?_ _)); exact BK229.out) hb); have n2_ := Aside0.mk (blk_below (g := gb235) (o := .cells #[.string (⟨#[]⟩ : ByteArray), .int .i64 (0 : Int), .int .i64 (0 : Int)] 23 (0, 0)) (by (with_reducible repeat (first | refine blk_drewN ?_ _ | refine blk_drew ?_ | refine blk_alloc ?_ _)); exact BK235.out) hb); have n3_ := Aside0.mk (below_step (by repeat (first | (with_reducible first | exact HB.out | apply below_alloc | apply pw_below_drewN | apply below_drew1 | refine below_set ?_ GE222.out | refine below_set ?_ GE229.out | refine below_set ?_ GE235.out) | exact HB.out)) hb); clear BK222; clear BK229; clear BK235; clear HB; have BK222 := n0_; have BK229 := n1_; have BK235 := n2_; have HB := n3_; clear n0_ n1_ n2_ n3_; (try clear hb); (try clear hb2); (try clear hk); (try clear hi)))
                            go_ret
                            exact ⟨by first | rfl | (simp [errW_none, errW_some] <;> rfl) | (simp [*, errW_none, errW_some] <;> rfl), by repeat (first | (with_reducible first | exact HB.out | apply below_alloc | apply pw_below_drewN | apply below_drew1 | refine below_set ?_ GE222.out | refine below_set ?_ GE229.out | refine below_set ?_ GE235.out) | exact HB.out)⟩
                          · rw [if_neg c196] at H
                            exact absurd (H.trans (congrArg some hr_.out)) (by decide)
                        · rw [if_neg c195] at H
                          exact absurd (H.trans (congrArg some hr_.out)) (by decide)
                      · rw [if_neg c194] at H
                        exact absurd (H.trans (congrArg some hr_.out)) (by decide)
                    · rw [if_neg c193] at H
                      exact absurd (H.trans (congrArg some hr_.out)) (by decide)end Go.Proofs.Ytamncbcephalaaa.A
