-- Written by a program of this session (mp.py) over the kit's print.py, with proofs by hand for what the print does not take.
import Derived.Test.YtamncbcephalaaaAx0
import Derived.Test.YtamncbcephalaaaAx2
import Derived.Test.YtamncbcephalaaaAx3
import Derived.Test.YtamncbcephalaaaAx4
import Derived.Test.YtamncbcephalaaaAx5
import Derived.Test.YtamncbcephalaaaAx6
import Derived.Test.YtamncbcephalaaaAx7
import Derived.Test.YtamncbcephalaaaAx14
namespace Go.Proofs.Ytamncbcephalaaa.A
open Go.RowKit Go.Proofs.YtamncbcephalaaaW.PrintWords Go.Proofs.YtamncbcephalaaaW.PrintLast Go.Proofs.YtamncbcephalaaaW.PrintMore
attribute [local go_sem] max2_int min2_int max_two min_two max_three min_three max_four min_four   -- for this text's walks alone
set_option linter.unusedVariables false
set_option linter.unusedSimpArgs false

/-! ### emulatorlaw42_PipeOrder: function 7 -/
mutual
def emulatorlaw42_PipeOrder.j0 : Nat → List (S39) → Bool → ByteArray → Int → Int → Option (Bool)
  | 0, _, _, _, _, _ => none
  | k + 1, x1, x20, x274000, x274001, x274002 => if x20 = true then (some true) else (emulatorlaw42_PipeOrder.l0 k x1 x274000 (⟨#[]⟩ : ByteArray) 0 x274000 x274001 x274002)
def emulatorlaw42_PipeOrder.l0 : Nat → List (S39) → ByteArray → ByteArray → Int → ByteArray → Int → Int → Option (Bool)
  | 0, _, _, _, _, _, _, _ => none
  | k + 1, x1, x5, x6, x7, x274000, x274001, x274002 => if x7 < (x1.length : Int) then (if 0 ≤ x7 then (if (((rd_T39 x1 x7).f2).size : Int) > 100 then (some true) else (if ((rd_T39 x1 x7).f0) = 0 then ((pipe_Read.f x274000 x274001 x274002 ((rd_T39 x1 x7).f1)).bind fun bt279 => (if x6.size + bt279.2.2.2.1.size ≤ 9223372036854775807 then (emulatorlaw42_PipeOrder.j2 k x1 x5 (x6 ++ bt279.2.2.2.1) x7 bt279.2.2.2.2 x274000 x274001 x274002 bt279.1 bt279.2.1 bt279.2.2.1) else (none))) else (if ((rd_T39 x1 x7).f0) = 1 then ((pipe_Write.f x274000 x274001 x274002 ((rd_T39 x1 x7).f2)).bind fun bt284 => (if bt284.2.2.2.1 < 0 then (some false) else (if bt284.2.2.2.1 > (((rd_T39 x1 x7).f2).size : Int) then (some false) else (if 0 ≤ bt284.2.2.2.1 then (if bt284.2.2.2.1 ≤ (((rd_T39 x1 x7).f2).size : Int) then (if x5.size + (((rd_T39 x1 x7).f2).extract 0 (bt284.2.2.2.1 : Int).toNat).size ≤ 9223372036854775807 then (emulatorlaw42_PipeOrder.j2 k x1 (x5 ++ (((rd_T39 x1 x7).f2).extract 0 (bt284.2.2.2.1 : Int).toNat)) x6 x7 bt284.2.2.2.2 x274000 x274001 x274002 bt284.1 bt284.2.1 bt284.2.2.1) else (none)) else (none)) else (none))))) else (if ((rd_T39 x1 x7).f0) = 2 then ((pipe_Close.f x274000 x274001 x274002 ((rd_T39 x1 x7).f3)).bind fun bt289 => (emulatorlaw42_PipeOrder.j2 k x1 x5 x6 x7 bt289.2.2.2 x274000 x274001 x274002 bt289.1 bt289.2.1 bt289.2.2.1)) else (if ((rd_T39 x1 x7).f0) = 3 then ((pipe_Dup.f k x274000 x274001 x274002 ((rd_T39 x1 x7).f3)).bind fun bt293 => (emulatorlaw42_PipeOrder.j2 k x1 x5 x6 x7 bt293.2.2.2 x274000 x274001 x274002 bt293.1 bt293.2.1 bt293.2.2.1)) else (emulatorlaw42_PipeOrder.j2 k x1 x5 x6 x7 0 x274000 x274001 x274002 x274000 x274001 x274002)))))) else (none)) else ((emulatorlaw42_alive.f k).bind fun t275 => (some t275))
def emulatorlaw42_PipeOrder.j2 : Nat → List (S39) → ByteArray → ByteArray → Int → Int → ByteArray → Int → Int → ByteArray → Int → Int → Option (Bool)
  | 0, _, _, _, _, _, _, _, _, _, _, _ => none
  | k + 1, x1, x5, x6, x7, x10, x274000, x274001, x274002, x279000, x279001, x279002 => if x10 = 0 then (emulatorlaw42_PipeOrder.j3 k x1 x5 x6 x7 x279000 x279001 x279002) else (emulatorlaw42_PipeOrder.j3 k x1 x5 x6 x7 x274000 x274001 x274002)
def emulatorlaw42_PipeOrder.j3 : Nat → List (S39) → ByteArray → ByteArray → Int → ByteArray → Int → Int → Option (Bool)
  | 0, _, _, _, _, _, _, _ => none
  | k + 1, x1, x5, x6, x7, x274000, x274001, x274002 => (pipe_Right.f x274000 x274001 x274002).bind fun t297 => (if t297 = true then (if x274001 = 0 then (if x274000.toList = ([] : List UInt8) then ((emulatorlaw42_alive.f k).bind fun t298 => (some t298)) else (some false)) else (if x6.size + x274000.size ≤ 9223372036854775807 then (if (x6 ++ x274000).toList = x5.toList then (emulatorlaw42_PipeOrder.l0 k x1 x5 x6 (wrap64 (x7 + 1)) x274000 x274001 x274002) else (some false)) else (none))) else (some false))
end
def emulatorlaw42_PipeOrder.f (k : Nat) (a0_0 : ByteArray) (a0_1 : Int) (a0_2 : Int) (l1 : List (S39)) : Option (Bool) := (emulatorref42_Right.f a0_0 a0_1 a0_2).bind fun t274 => (if t274 = true then (emulatorlaw42_PipeOrder.j0 k l1 (decide ((l1.length : Int) > 100)) a0_0 a0_1 a0_2) else (emulatorlaw42_PipeOrder.j0 k l1 true a0_0 a0_1 a0_2))
theorem emulatorlaw42_PipeOrder.mono_l : ∀ k, (∀ y0 y1 y2 y3 y4, LeO (emulatorlaw42_PipeOrder.j0 k y0 y1 y2 y3 y4) (emulatorlaw42_PipeOrder.j0 (k + 1) y0 y1 y2 y3 y4)) ∧ (∀ y0 y1 y2 y3 y4 y5 y6, LeO (emulatorlaw42_PipeOrder.l0 k y0 y1 y2 y3 y4 y5 y6) (emulatorlaw42_PipeOrder.l0 (k + 1) y0 y1 y2 y3 y4 y5 y6)) ∧ (∀ y0 y1 y2 y3 y4 y5 y6 y7 y8 y9 y10, LeO (emulatorlaw42_PipeOrder.j2 k y0 y1 y2 y3 y4 y5 y6 y7 y8 y9 y10) (emulatorlaw42_PipeOrder.j2 (k + 1) y0 y1 y2 y3 y4 y5 y6 y7 y8 y9 y10)) ∧ (∀ y0 y1 y2 y3 y4 y5 y6, LeO (emulatorlaw42_PipeOrder.j3 k y0 y1 y2 y3 y4 y5 y6) (emulatorlaw42_PipeOrder.j3 (k + 1) y0 y1 y2 y3 y4 y5 y6))
  | 0 => ⟨fun _ _ _ _ _ r h => by simp [emulatorlaw42_PipeOrder.j0] at h, fun _ _ _ _ _ _ _ r h => by simp [emulatorlaw42_PipeOrder.l0] at h, fun _ _ _ _ _ _ _ _ _ _ _ r h => by simp [emulatorlaw42_PipeOrder.j2] at h, fun _ _ _ _ _ _ _ r h => by simp [emulatorlaw42_PipeOrder.j3] at h⟩
  | k + 1 => by
    obtain ⟨ih0, ih1, ih2, ih3⟩ := emulatorlaw42_PipeOrder.mono_l k
    refine ⟨?_, ?_, ?_, ?_⟩
    · intro y0 y1 y2 y3 y4
      unfold emulatorlaw42_PipeOrder.j0
      repeat' first
      | (with_reducible exact ih0 _ _ _ _ _)
      | (with_reducible exact ih1 _ _ _ _ _ _ _)
      | (with_reducible exact ih2 _ _ _ _ _ _ _ _ _ _ _)
      | (with_reducible exact ih3 _ _ _ _ _ _ _)
      | (with_reducible exact emulatorlaw42_alive.mono _)
      | (with_reducible exact pipe_Dup.mono _ _ _ _ _)
      | (with_reducible exact LeO.refl _)
      | (with_reducible exact LeO.none _)
      | (with_reducible refine LeO.ite ?_ ?_)
      | (with_reducible refine LeO.bind ?_ (fun _ => ?_))
      | exact ih0 _ _ _ _ _
      | exact ih1 _ _ _ _ _ _ _
      | exact ih2 _ _ _ _ _ _ _ _ _ _ _
      | exact ih3 _ _ _ _ _ _ _
      | exact emulatorlaw42_alive.mono _
      | exact pipe_Dup.mono _ _ _ _ _
      | exact LeO.none _
      | refine LeO.ite ?_ ?_
      | refine LeO.bind ?_ (fun _ => ?_)
    · intro y0 y1 y2 y3 y4 y5 y6
      unfold emulatorlaw42_PipeOrder.l0
      repeat' first
      | (with_reducible exact ih0 _ _ _ _ _)
      | (with_reducible exact ih1 _ _ _ _ _ _ _)
      | (with_reducible exact ih2 _ _ _ _ _ _ _ _ _ _ _)
      | (with_reducible exact ih3 _ _ _ _ _ _ _)
      | (with_reducible exact emulatorlaw42_alive.mono _)
      | (with_reducible exact pipe_Dup.mono _ _ _ _ _)
      | (with_reducible exact LeO.refl _)
      | (with_reducible exact LeO.none _)
      | (with_reducible refine LeO.ite ?_ ?_)
      | (with_reducible refine LeO.bind ?_ (fun _ => ?_))
      | exact ih0 _ _ _ _ _
      | exact ih1 _ _ _ _ _ _ _
      | exact ih2 _ _ _ _ _ _ _ _ _ _ _
      | exact ih3 _ _ _ _ _ _ _
      | exact emulatorlaw42_alive.mono _
      | exact pipe_Dup.mono _ _ _ _ _
      | exact LeO.none _
      | refine LeO.ite ?_ ?_
      | refine LeO.bind ?_ (fun _ => ?_)
    · intro y0 y1 y2 y3 y4 y5 y6 y7 y8 y9 y10
      unfold emulatorlaw42_PipeOrder.j2
      repeat' first
      | (with_reducible exact ih0 _ _ _ _ _)
      | (with_reducible exact ih1 _ _ _ _ _ _ _)
      | (with_reducible exact ih2 _ _ _ _ _ _ _ _ _ _ _)
      | (with_reducible exact ih3 _ _ _ _ _ _ _)
      | (with_reducible exact emulatorlaw42_alive.mono _)
      | (with_reducible exact pipe_Dup.mono _ _ _ _ _)
      | (with_reducible exact LeO.refl _)
      | (with_reducible exact LeO.none _)
      | (with_reducible refine LeO.ite ?_ ?_)
      | (with_reducible refine LeO.bind ?_ (fun _ => ?_))
      | exact ih0 _ _ _ _ _
      | exact ih1 _ _ _ _ _ _ _
      | exact ih2 _ _ _ _ _ _ _ _ _ _ _
      | exact ih3 _ _ _ _ _ _ _
      | exact emulatorlaw42_alive.mono _
      | exact pipe_Dup.mono _ _ _ _ _
      | exact LeO.none _
      | refine LeO.ite ?_ ?_
      | refine LeO.bind ?_ (fun _ => ?_)
    · intro y0 y1 y2 y3 y4 y5 y6
      unfold emulatorlaw42_PipeOrder.j3
      repeat' first
      | (with_reducible exact ih0 _ _ _ _ _)
      | (with_reducible exact ih1 _ _ _ _ _ _ _)
      | (with_reducible exact ih2 _ _ _ _ _ _ _ _ _ _ _)
      | (with_reducible exact ih3 _ _ _ _ _ _ _)
      | (with_reducible exact emulatorlaw42_alive.mono _)
      | (with_reducible exact pipe_Dup.mono _ _ _ _ _)
      | (with_reducible exact LeO.refl _)
      | (with_reducible exact LeO.none _)
      | (with_reducible refine LeO.ite ?_ ?_)
      | (with_reducible refine LeO.bind ?_ (fun _ => ?_))
      | exact ih0 _ _ _ _ _
      | exact ih1 _ _ _ _ _ _ _
      | exact ih2 _ _ _ _ _ _ _ _ _ _ _
      | exact ih3 _ _ _ _ _ _ _
      | exact emulatorlaw42_alive.mono _
      | exact pipe_Dup.mono _ _ _ _ _
      | exact LeO.none _
      | refine LeO.ite ?_ ?_
      | refine LeO.bind ?_ (fun _ => ?_)
theorem emulatorlaw42_PipeOrder.mono : ∀ a0 a1 a2 a3 k, LeO (emulatorlaw42_PipeOrder.f k a0 a1 a2 a3) (emulatorlaw42_PipeOrder.f (k + 1) a0 a1 a2 a3) := by
  intro a0 a1 a2 a3 k
  obtain ⟨ih0, ih1, ih2, ih3⟩ := emulatorlaw42_PipeOrder.mono_l k
  unfold emulatorlaw42_PipeOrder.f
  repeat' first
      | (with_reducible exact ih0 _ _ _ _ _)
      | (with_reducible exact ih1 _ _ _ _ _ _ _)
      | (with_reducible exact ih2 _ _ _ _ _ _ _ _ _ _ _)
      | (with_reducible exact ih3 _ _ _ _ _ _ _)
      | (with_reducible exact emulatorlaw42_alive.mono _)
      | (with_reducible exact pipe_Dup.mono _ _ _ _ _)
      | (with_reducible exact LeO.refl _)
      | (with_reducible exact LeO.none _)
      | (with_reducible refine LeO.ite ?_ ?_)
      | (with_reducible refine LeO.bind ?_ (fun _ => ?_))
      | exact ih0 _ _ _ _ _
      | exact ih1 _ _ _ _ _ _ _
      | exact ih2 _ _ _ _ _ _ _ _ _ _ _
      | exact ih3 _ _ _ _ _ _ _
      | exact emulatorlaw42_alive.mono _
      | exact pipe_Dup.mono _ _ _ _ _
      | exact LeO.none _
      | refine LeO.ite ?_ ?_
      | refine LeO.bind ?_ (fun _ => ?_)
set_option maxHeartbeats 8000000 in
set_option maxRecDepth 100000 in
theorem emulatorlaw42_PipeOrder.calls (k : Nat) (a0_0 : ByteArray) (a0_1 : Int) (a0_2 : Int) (A1 : Option Addr) (c1 : Nat) (l1 : List (S39)) (r : Bool) (w : World) (hr1 : Kd.C k39 w A1 l1.length l1) (hc1 : l1.length ≤ c1) (h : emulatorlaw42_PipeOrder.f k a0_0 a0_1 a0_2 l1 = some r) (hr0 : r = true) :
    Calls Try.prog 7 #[.agg #[.string a0_0, .int .i64 a0_1, .int .i64 a0_2], .slice A1 l1.length c1] w fun e w' => e = .returned (.bool r) ∧ Below w.heap.size w w' := by
  have hu23 := Try.underlying23
  have hu39 := Try.underlying39
  have HR1 := Aside0.mk hr1
  have HC1 := Aside0.mk hc1
  clear hr1 hc1
  have hr_ := Aside0.mk hr0
  clear hr0
  have HB := Aside0.mk (Below.refl w.heap.size w)
  have H : ((emulatorref42_Right.f a0_0 a0_1 a0_2).bind fun t274 => (if t274 = true then (emulatorlaw42_PipeOrder.j0 k l1 (decide ((l1.length : Int) > 100)) a0_0 a0_1 a0_2) else (emulatorlaw42_PipeOrder.j0 k l1 true a0_0 a0_1 a0_2))) = some r := h
  clear h
  have HC3 := Aside0.mk H
  clear H
  go_enter Try.func7, Try.ntmps7
  go_upto_region 1 with (first | ((with_reducible refine gate_dst (N := 2) rfl ?_); (try (refine gate_guard (by rfl) ?_; dsimp only)); refine box_event ?hg (N := 2) ?hd (cs := #[.string a0_0, .int .i64 a0_1, .int .i64 a0_2]) (t := 23) ?hr ?_; (case hd => rfl); (case hg => rfl); (case hr => first | (go_simp; done) | (go_simp; rfl)); intro gb273 hg w4 hbox hb; have n0_ := Aside0.mk (below_step (by repeat (first | (with_reducible first | exact HB.out | apply below_alloc | apply pw_below_drewN | apply below_drew1) | exact HB.out)) hb); have n1_ := Aside0.mk (hbox); have n2_ := Aside0.mk ((by rw [hg]; exact (below_size (by repeat (first | (with_reducible first | exact HB.out | apply below_alloc | apply pw_below_drewN | apply below_drew1) | exact HB.out))) : w.heap.size ≤ gb273)); have n3_ := Aside0.mk ((by rw [hg]; exact (below_size (by repeat (first | (with_reducible first | exact HB.out | apply below_alloc | apply pw_below_drewN | apply below_drew1) | exact HB.out))) : w.heap.size ≤ gb273)); clear HB; have HB := n0_; have BK273 := n1_; have GW273 := n2_; have GE273 := n3_; clear n0_ n1_ n2_ n3_; clear hb hbox hg))
  (try simp only [Act.put, List.setIfInBounds_toArray, List.set_cons_zero, List.set_cons_succ])
  go_cut [20] (fun v20 wc => ∃ (kq : Nat) (x20_2 : Bool), v20 = .bool x20_2 ∧ Aside0 (emulatorlaw42_PipeOrder.j0 kq l1 x20_2 a0_0 a0_1 a0_2 = some r) ∧ Aside0 (kq ≤ k) ∧ Aside0 (wc.heap[gb273]? = some (.cells #[.string a0_0, .int .i64 a0_1, .int .i64 a0_2] 23 (0, 0))) ∧ Aside0 (Below w.heap.size w wc))
  case first =>
    have H := HC3.out
    clear HC3
    replace H := Option.bind_eq_some_iff.mp H
    obtain ⟨t274, A50, H⟩ := H
    replace H : (if t274 = true then (emulatorlaw42_PipeOrder.j0 k l1 (decide ((l1.length : Int) > 100)) a0_0 a0_1 a0_2) else (emulatorlaw42_PipeOrder.j0 k l1 true a0_0 a0_1 a0_2)) = some r := H
    have A5 := Aside0.mk A50
    clear A50
    by_cases c6 : t274 = true
    · subst c6
      have H1 : (emulatorlaw42_PipeOrder.j0 k l1 (decide ((l1.length : Int) > 100)) a0_0 a0_1 a0_2) = some r := by rw [if_pos rfl] at H; exact H
      clear H
      have H := H1
      clear H1
      have H' := Aside0.mk H
      clear H
      have hcz7_0 : w4.cell? ⟨gb273, 0, none⟩ = some (.string a0_0) := (blk_cell BK273.out 0).trans rfl
      have hcz7_1 : w4.cell? ⟨gb273, 1, none⟩ = some (.int .i64 a0_1) := (blk_cell BK273.out 1).trans rfl
      have hcz7_2 : w4.cell? ⟨gb273, 2, none⟩ = some (.int .i64 a0_2) := (blk_cell BK273.out 2).trans rfl
      have hfz7_0 := blk_frozen BK273.out 0
      have hfz7_1 := blk_frozen BK273.out 1
      have hfz7_2 := blk_frozen BK273.out 2
      go_wp2_with (first | ((with_reducible refine gate_callee (f := 10) rfl ?_); refine goesL_ (some 14) rfl rfl Try.func10 (by kernel_rfl) rfl #[.agg #[.string a0_0, .int .i64 a0_1, .int .i64 a0_2]] rfl (by (try simp only [List.map_toArray, List.map_cons, List.map_nil]); first | done | rfl | (simp only [List.length_drop, List.length_take]; rfl)) ?_; (with_reducible refine (emulatorref42_Right.calls a0_0 a0_1 a0_2 true _ A5.out).mono ?_); rintro e w8 ⟨rfl, hb⟩; refine ⟨_, rfl, ?_⟩; have n0_ := Aside0.mk (blk_below (g := gb273) (o := .cells #[.string a0_0, .int .i64 a0_1, .int .i64 a0_2] 23 (0, 0)) (by (with_reducible repeat (first | refine blk_drewN ?_ _ | refine blk_drew ?_ | refine blk_alloc ?_ _)); exact BK273.out) hb); have n1_ := Aside0.mk (below_step (by repeat (first | (with_reducible first | exact HB.out | apply below_alloc | apply pw_below_drewN | apply below_drew1 | refine below_set ?_ GE273.out) | exact HB.out)) hb); clear BK273; clear HB; have BK273 := n0_; have HB := n1_; clear n0_ n1_; (try clear hb); (try clear hb2); (try clear hk); (try clear hi)))
      go_meet
      case rel => exact ⟨_, (decide ((l1.length : Int) > 100)), (by first | rfl | (simp; done) | (simp [*]; done)), H', ⟨by first | omega | exact Nat.le_refl _⟩, ⟨by (with_reducible repeat (first | refine blk_drewN ?_ _ | refine blk_drew ?_ | refine blk_alloc ?_ _)); exact BK273.out⟩, ⟨by repeat (first | (with_reducible first | exact HB.out | apply below_alloc | apply pw_below_drewN | apply below_drew1 | refine below_set ?_ GE273.out) | exact HB.out)⟩⟩
    · replace c6 := Bool.eq_false_iff.mpr c6
      subst c6
      have H1 : (emulatorlaw42_PipeOrder.j0 k l1 true a0_0 a0_1 a0_2) = some r := by rw [if_neg (show ¬ (false = true) by decide)] at H; exact H
      clear H
      have H := H1
      clear H1
      have H' := Aside0.mk H
      clear H
      have hcz9_0 : w4.cell? ⟨gb273, 0, none⟩ = some (.string a0_0) := (blk_cell BK273.out 0).trans rfl
      have hcz9_1 : w4.cell? ⟨gb273, 1, none⟩ = some (.int .i64 a0_1) := (blk_cell BK273.out 1).trans rfl
      have hcz9_2 : w4.cell? ⟨gb273, 2, none⟩ = some (.int .i64 a0_2) := (blk_cell BK273.out 2).trans rfl
      have hfz9_0 := blk_frozen BK273.out 0
      have hfz9_1 := blk_frozen BK273.out 1
      have hfz9_2 := blk_frozen BK273.out 2
      go_wp2_with (first | ((with_reducible refine gate_callee (f := 10) rfl ?_); refine goesL_ (some 14) rfl rfl Try.func10 (by kernel_rfl) rfl #[.agg #[.string a0_0, .int .i64 a0_1, .int .i64 a0_2]] rfl (by (try simp only [List.map_toArray, List.map_cons, List.map_nil]); first | done | rfl | (simp only [List.length_drop, List.length_take]; rfl)) ?_; (with_reducible refine (emulatorref42_Right.calls a0_0 a0_1 a0_2 false _ A5.out).mono ?_); rintro e w10 ⟨rfl, hb⟩; refine ⟨_, rfl, ?_⟩; have n0_ := Aside0.mk (blk_below (g := gb273) (o := .cells #[.string a0_0, .int .i64 a0_1, .int .i64 a0_2] 23 (0, 0)) (by (with_reducible repeat (first | refine blk_drewN ?_ _ | refine blk_drew ?_ | refine blk_alloc ?_ _)); exact BK273.out) hb); have n1_ := Aside0.mk (below_step (by repeat (first | (with_reducible first | exact HB.out | apply below_alloc | apply pw_below_drewN | apply below_drew1 | refine below_set ?_ GE273.out) | exact HB.out)) hb); clear BK273; clear HB; have BK273 := n0_; have HB := n1_; clear n0_ n1_; (try clear hb); (try clear hb2); (try clear hk); (try clear hi)))
      go_meet
      case rel => exact ⟨_, (true), (by first | rfl | (simp; done) | (simp [*]; done)), H', ⟨by first | omega | exact Nat.le_refl _⟩, ⟨by (with_reducible repeat (first | refine blk_drewN ?_ _ | refine blk_drew ?_ | refine blk_alloc ?_ _)); exact BK273.out⟩, ⟨by repeat (first | (with_reducible first | exact HB.out | apply below_alloc | apply pw_below_drewN | apply below_drew1 | refine below_set ?_ GE273.out) | exact HB.out)⟩⟩
  case rest =>
    clear HC3
    try clear c1
    try clear p2
    try clear c6
    try clear c7
    try clear c10
    try clear hcz7_0
    try clear hcz7_1
    try clear hcz7_2
    try clear hcz9_0
    try clear hcz9_1
    try clear hcz9_2
    try clear hfz7_0
    try clear hfz7_1
    try clear hfz7_2
    try clear hfz9_0
    try clear hfz9_1
    try clear hfz9_2
    obtain ⟨kq, x20_2, rfl, HA, HJ2, BK273, HB⟩ := hcut
    cases kq with
    | zero => exact absurd HA.out (by simp [emulatorlaw42_PipeOrder.j0])
    | succ kj2 =>
      have H := HA.out
      clear HA
      simp only [emulatorlaw42_PipeOrder.j0] at H
      by_cases c11 : x20_2 = true
      · subst c11
        have H1 : (some true) = some r := by rw [if_pos rfl] at H; exact H
        clear H
        have H := H1
        clear H1
        obtain rfl := Option.some.inj H
        go_wp2
        go_ret
        exact ⟨by first | rfl | (simp [errW_none, errW_some] <;> rfl) | (simp [*, errW_none, errW_some] <;> rfl), by repeat (first | (with_reducible first | exact HB.out | apply below_alloc | apply pw_below_drewN | apply below_drew1 | refine below_set ?_ GE273.out) | exact HB.out)⟩
      · replace c11 := Bool.eq_false_iff.mpr c11
        subst c11
        have H1 : (emulatorlaw42_PipeOrder.l0 kj2 l1 a0_0 (⟨#[]⟩ : ByteArray) 0 a0_0 a0_1 a0_2) = some r := by rw [if_neg (show ¬ (false = true) by decide)] at H; exact H
        clear H
        have H := H1
        clear H1
        have H' := Aside0.mk H
        clear H
        have hcz12_0 : wc.cell? ⟨gb273, 0, none⟩ = some (.string a0_0) := (blk_cell BK273.out 0).trans rfl
        have hcz12_1 : wc.cell? ⟨gb273, 1, none⟩ = some (.int .i64 a0_1) := (blk_cell BK273.out 1).trans rfl
        have hcz12_2 : wc.cell? ⟨gb273, 2, none⟩ = some (.int .i64 a0_2) := (blk_cell BK273.out 2).trans rfl
        have hfz12_0 := blk_frozen BK273.out 0
        have hfz12_1 := blk_frozen BK273.out 1
        have hfz12_2 := blk_frozen BK273.out 2
        go_wp2
        go_loopg [5, 6, 7] kj2 (fun kq v5 v6 v7 w' => ∃ (x5_2 : ByteArray) (x6_2 : ByteArray) (x7_2 : Int) (x274000_2 : ByteArray) (x274001_2 : Int) (x274002_2 : Int), v5 = .string x5_2 ∧ v6 = .string x6_2 ∧ v7 = .int .i64 x7_2 ∧ Aside0 (emulatorlaw42_PipeOrder.l0 kq l1 x5_2 x6_2 x7_2 x274000_2 x274001_2 x274002_2 = some r) ∧ Aside0 (kq ≤ kj2) ∧ Aside0 (w'.heap[gb273]? = some (.cells #[.string x274000_2, .int .i64 x274001_2, .int .i64 x274002_2] 23 (0, 0))) ∧ Aside0 (Below w.heap.size w w'))
        case atStart => exact ⟨(a0_0), ((⟨#[]⟩ : ByteArray)), (0), (a0_0), (a0_1), (a0_2), (by first | rfl | (simp; done) | (simp [*]; done)), (by first | rfl | (simp; done) | (simp [*]; done)), (by first | rfl | (simp; done) | (simp [*]; done)), H', ⟨Nat.le_refl _⟩, ⟨by (with_reducible repeat (first | refine blk_drewN ?_ _ | refine blk_drew ?_ | refine blk_alloc ?_ _)); exact BK273.out⟩, ⟨by repeat (first | (with_reducible first | exact HB.out | apply below_alloc | apply pw_below_drewN | apply below_drew1 | refine below_set ?_ GE273.out) | exact HB.out)⟩⟩
        case round =>
          clear H'
          try clear c1
          try clear p2
          try clear c6
          try clear c7
          try clear c10
          try clear c11
          try clear hcz12_0
          try clear hcz12_1
          try clear hcz12_2
          try clear hcz7_0
          try clear hcz7_1
          try clear hcz7_2
          try clear hcz9_0
          try clear hcz9_1
          try clear hcz9_2
          try clear hfz12_0
          try clear hfz12_1
          try clear hfz12_2
          try clear hfz7_0
          try clear hfz7_1
          try clear hfz7_2
          try clear hfz9_0
          try clear hfz9_1
          try clear hfz9_2
          try clear p2
          obtain ⟨x5_2, x6_2, x7_2, x274000_2, x274001_2, x274002_2, rfl, rfl, rfl, HA, HK2, BK273, HB⟩ := hrel
          cases gk with
          | zero => exact absurd HA.out (by simp [emulatorlaw42_PipeOrder.l0])
          | succ k2 =>
            have H := HA.out
            clear HA
            simp only [emulatorlaw42_PipeOrder.l0] at H
            by_cases c13 : x7_2 < (l1.length : Int)
            · rw [if_pos c13] at H
              have c13b0 : decide (x7_2 < (l1.length : Int)) = true := decide_eq_true c13
              clear c13
              by_cases c14 : 0 ≤ x7_2
              · rw [if_pos c14] at H
                have c14b0 : decide (0 ≤ x7_2) = true := decide_eq_true c14
                clear c14
                by_cases c15 : (((rd_T39 l1 x7_2).f2).size : Int) > 100
                · rw [if_pos c15] at H
                  have c15b0 : decide (100 < (((rd_T39 l1 x7_2).f2).size : Int)) = true := decide_eq_true c15
                  have c15b1 : decide (100 < ((rd_T39 l1 x7_2).f2).size) = true := decide_eq_true (by omega)
                  clear c15
                  obtain rfl := Option.some.inj H
                  have p276 : 0 ≤ (x7_2 : Int) := of_decide_eq_true (by first | (with_reducible assumption) | assumption)
                  have q276 : x7_2 < (l1.length : Int) := of_decide_eq_true (by first | (with_reducible assumption) | assumption)
                  obtain ⟨ad276, e276, hx276_0, hx276_1, hx276_2, hx276_3⟩ := at_T39 HR1.out x7_2 p276 q276
                  cases e276
                  replace hx276_0 := (HB.out.cell (World.block_lt_of_cell? w _ hx276_0)).trans hx276_0
                  replace hx276_1 := (HB.out.cell (World.block_lt_of_cell? w _ hx276_1)).trans hx276_1
                  replace hx276_2 := (HB.out.cell (World.block_lt_of_cell? w _ hx276_2)).trans hx276_2
                  replace hx276_3 := (HB.out.cell (World.block_lt_of_cell? w _ hx276_3)).trans hx276_3
                  replace p276 := eq_true p276
                  replace q276 := eq_true q276
                  go_wp2_with (first | ((with_reducible refine gate_dst (N := 8) rfl ?_); (try (refine gate_guard (by rfl) ?_; dsimp only)); refine box_event ?hg (N := 8) ?hd (cs := #[.int .i64 0, .int .i64 0, .string (⟨#[]⟩ : ByteArray), .bool false]) (t := 39) ?hr ?_; (case hd => rfl); (case hg => rfl); (case hr => first | (go_simp; done) | (go_simp; rfl)); intro gb277 hg w16 hbox hb; have n0_ := Aside0.mk (blk_below (g := gb273) (o := .cells #[.string x274000_2, .int .i64 x274001_2, .int .i64 x274002_2] 23 (0, 0)) (by (with_reducible repeat (first | refine blk_drewN ?_ _ | refine blk_drew ?_ | refine blk_alloc ?_ _)); exact BK273.out) hb); have n1_ := Aside0.mk (below_step (by repeat (first | (with_reducible first | exact HB.out | apply below_alloc | apply pw_below_drewN | apply below_drew1 | refine below_set ?_ GE273.out) | exact HB.out)) hb); have n2_ := Aside0.mk (hbox); have n3_ := Aside0.mk ((by rw [hg]; exact (below_size (by repeat (first | (with_reducible first | exact HB.out | apply below_alloc | apply pw_below_drewN | apply below_drew1 | refine below_set ?_ GE273.out) | exact HB.out))) : w.heap.size ≤ gb277)); have n4_ := Aside0.mk ((by rw [hg]; exact (below_size (by repeat (first | (with_reducible first | exact HB.out | apply below_alloc | apply pw_below_drewN | apply below_drew1 | refine below_set ?_ GE273.out) | exact HB.out))) : w.heap.size ≤ gb277)); have n5_ := Aside0.mk ((by rw [hg]; exact Nat.ne_of_lt (blk_lt (g := gb273) (o := .cells #[.string x274000_2, .int .i64 x274001_2, .int .i64 x274002_2] 23 (0, 0)) (by (with_reducible repeat (first | refine blk_drewN ?_ _ | refine blk_drew ?_ | refine blk_alloc ?_ _)); exact BK273.out)) : gb273 ≠ gb277)); have n6_ := Aside0.mk ((by rw [hg]; exact Nat.ne_of_gt (blk_lt (g := gb273) (o := .cells #[.string x274000_2, .int .i64 x274001_2, .int .i64 x274002_2] 23 (0, 0)) (by (with_reducible repeat (first | refine blk_drewN ?_ _ | refine blk_drew ?_ | refine blk_alloc ?_ _)); exact BK273.out)) : gb277 ≠ gb273)); clear BK273; clear HB; have BK273 := n0_; have HB := n1_; have BK277 := n2_; have GW277 := n3_; have GE277 := n4_; have NB273_277 := n5_; have NB277_273 := n6_; clear n0_ n1_ n2_ n3_ n4_ n5_ n6_; clear hb hbox hg; have hnb17 := NB277_273.out; have hnc17 := NB273_277.out; have hcz18_0 : w16.cell? ⟨gb277, 0, none⟩ = some (.int .i64 0) := (blk_cell BK277.out 0).trans rfl; have hcz18_1 : w16.cell? ⟨gb277, 1, none⟩ = some (.int .i64 0) := (blk_cell BK277.out 1).trans rfl; have hcz18_2 : w16.cell? ⟨gb277, 2, none⟩ = some (.string (⟨#[]⟩ : ByteArray)) := (blk_cell BK277.out 2).trans rfl; have hcz18_3 : w16.cell? ⟨gb277, 3, none⟩ = some (.bool false) := (blk_cell BK277.out 3).trans rfl; have hfz18_0 := blk_frozen BK277.out 0; have hfz18_1 := blk_frozen BK277.out 1; have hfz18_2 := blk_frozen BK277.out 2; have hfz18_3 := blk_frozen BK277.out 3))
                  go_ret
                  exact ⟨by first | rfl | (simp [errW_none, errW_some] <;> rfl) | (simp [*, errW_none, errW_some] <;> rfl), by repeat (first | (with_reducible first | exact HB.out | apply below_alloc | apply pw_below_drewN | apply below_drew1 | refine below_set ?_ GE273.out | refine below_set ?_ GE277.out) | exact HB.out)⟩
                · rw [if_neg c15] at H
                  have c15b0 : decide (100 < (((rd_T39 l1 x7_2).f2).size : Int)) = false := decide_eq_false c15
                  have c15b1 : decide (100 < ((rd_T39 l1 x7_2).f2).size) = false := decide_eq_false (by omega)
                  clear c15
                  have HC19 := Aside0.mk H
                  clear H
                  have p276 : 0 ≤ (x7_2 : Int) := of_decide_eq_true (by first | (with_reducible assumption) | assumption)
                  have q276 : x7_2 < (l1.length : Int) := of_decide_eq_true (by first | (with_reducible assumption) | assumption)
                  obtain ⟨ad276, e276, hx276_0, hx276_1, hx276_2, hx276_3⟩ := at_T39 HR1.out x7_2 p276 q276
                  cases e276
                  replace hx276_0 := (HB.out.cell (World.block_lt_of_cell? w _ hx276_0)).trans hx276_0
                  replace hx276_1 := (HB.out.cell (World.block_lt_of_cell? w _ hx276_1)).trans hx276_1
                  replace hx276_2 := (HB.out.cell (World.block_lt_of_cell? w _ hx276_2)).trans hx276_2
                  replace hx276_3 := (HB.out.cell (World.block_lt_of_cell? w _ hx276_3)).trans hx276_3
                  replace p276 := eq_true p276
                  replace q276 := eq_true q276
                  go_upto_block 2 with (first | ((with_reducible refine gate_dst (N := 8) rfl ?_); (try (refine gate_guard (by rfl) ?_; dsimp only)); refine box_event ?hg (N := 8) ?hd (cs := #[.int .i64 0, .int .i64 0, .string (⟨#[]⟩ : ByteArray), .bool false]) (t := 39) ?hr ?_; (case hd => rfl); (case hg => rfl); (case hr => first | (go_simp; done) | (go_simp; rfl)); intro gb277 hg w20 hbox hb; have n0_ := Aside0.mk (blk_below (g := gb273) (o := .cells #[.string x274000_2, .int .i64 x274001_2, .int .i64 x274002_2] 23 (0, 0)) (by (with_reducible repeat (first | refine blk_drewN ?_ _ | refine blk_drew ?_ | refine blk_alloc ?_ _)); exact BK273.out) hb); have n1_ := Aside0.mk (below_step (by repeat (first | (with_reducible first | exact HB.out | apply below_alloc | apply pw_below_drewN | apply below_drew1 | refine below_set ?_ GE273.out) | exact HB.out)) hb); have n2_ := Aside0.mk (hbox); have n3_ := Aside0.mk ((by rw [hg]; exact (below_size (by repeat (first | (with_reducible first | exact HB.out | apply below_alloc | apply pw_below_drewN | apply below_drew1 | refine below_set ?_ GE273.out) | exact HB.out))) : w.heap.size ≤ gb277)); have n4_ := Aside0.mk ((by rw [hg]; exact (below_size (by repeat (first | (with_reducible first | exact HB.out | apply below_alloc | apply pw_below_drewN | apply below_drew1 | refine below_set ?_ GE273.out) | exact HB.out))) : w.heap.size ≤ gb277)); have n5_ := Aside0.mk ((by rw [hg]; exact Nat.ne_of_lt (blk_lt (g := gb273) (o := .cells #[.string x274000_2, .int .i64 x274001_2, .int .i64 x274002_2] 23 (0, 0)) (by (with_reducible repeat (first | refine blk_drewN ?_ _ | refine blk_drew ?_ | refine blk_alloc ?_ _)); exact BK273.out)) : gb273 ≠ gb277)); have n6_ := Aside0.mk ((by rw [hg]; exact Nat.ne_of_gt (blk_lt (g := gb273) (o := .cells #[.string x274000_2, .int .i64 x274001_2, .int .i64 x274002_2] 23 (0, 0)) (by (with_reducible repeat (first | refine blk_drewN ?_ _ | refine blk_drew ?_ | refine blk_alloc ?_ _)); exact BK273.out)) : gb277 ≠ gb273)); clear BK273; clear HB; have BK273 := n0_; have HB := n1_; have BK277 := n2_; have GW277 := n3_; have GE277 := n4_; have NB273_277 := n5_; have NB277_273 := n6_; clear n0_ n1_ n2_ n3_ n4_ n5_ n6_; clear hb hbox hg; have hnb21 := NB277_273.out; have hnc21 := NB273_277.out; have hcz22_0 : w20.cell? ⟨gb277, 0, none⟩ = some (.int .i64 0) := (blk_cell BK277.out 0).trans rfl; have hcz22_1 : w20.cell? ⟨gb277, 1, none⟩ = some (.int .i64 0) := (blk_cell BK277.out 1).trans rfl; have hcz22_2 : w20.cell? ⟨gb277, 2, none⟩ = some (.string (⟨#[]⟩ : ByteArray)) := (blk_cell BK277.out 2).trans rfl; have hcz22_3 : w20.cell? ⟨gb277, 3, none⟩ = some (.bool false) := (blk_cell BK277.out 3).trans rfl; have hfz22_0 := blk_frozen BK277.out 0; have hfz22_1 := blk_frozen BK277.out 1; have hfz22_2 := blk_frozen BK277.out 2; have hfz22_3 := blk_frozen BK277.out 3; have hcz23_0 : w20.cell? ⟨gb273, 0, none⟩ = some (.string x274000_2) := (blk_cell BK273.out 0).trans rfl; have hcz23_1 : w20.cell? ⟨gb273, 1, none⟩ = some (.int .i64 x274001_2) := (blk_cell BK273.out 1).trans rfl; have hcz23_2 : w20.cell? ⟨gb273, 2, none⟩ = some (.int .i64 x274002_2) := (blk_cell BK273.out 2).trans rfl; have hfz23_0 := blk_frozen BK273.out 0; have hfz23_1 := blk_frozen BK273.out 1; have hfz23_2 := blk_frozen BK273.out 2) | ((with_reducible refine gate_dst (N := 9) rfl ?_); (try (refine gate_guard (by rfl) ?_; dsimp only)); refine box_event ?hg (N := 9) ?hd (cs := #[.string (⟨#[]⟩ : ByteArray), .int .i64 0, .int .i64 0]) (t := 23) ?hr ?_; (case hd => rfl); (case hg => rfl); (case hr => first | (go_simp; done) | (go_simp; rfl)); intro gb278 hg w24 hbox hb; have n0_ := Aside0.mk (blk_below (g := gb273) (o := .cells #[.string x274000_2, .int .i64 x274001_2, .int .i64 x274002_2] 23 (0, 0)) (by (with_reducible repeat (first | refine blk_drewN ?_ _ | refine blk_drew ?_ | refine blk_alloc ?_ _)); refine blk_far ?_ NB273_277.out _; (with_reducible repeat (first | refine blk_drewN ?_ _ | refine blk_drew ?_ | refine blk_alloc ?_ _)); refine blk_far ?_ NB273_277.out _; (with_reducible repeat (first | refine blk_drewN ?_ _ | refine blk_drew ?_ | refine blk_alloc ?_ _)); refine blk_far ?_ NB273_277.out _; (with_reducible repeat (first | refine blk_drewN ?_ _ | refine blk_drew ?_ | refine blk_alloc ?_ _)); refine blk_far ?_ NB273_277.out _; (with_reducible repeat (first | refine blk_drewN ?_ _ | refine blk_drew ?_ | refine blk_alloc ?_ _)); exact BK273.out) hb); have n1_ := Aside0.mk (blk_below (g := gb277) (o := .cells #[.int .i64 ((rd_T39 l1 x7_2).f0), .int .i64 ((rd_T39 l1 x7_2).f1), .string ((rd_T39 l1 x7_2).f2), .bool ((rd_T39 l1 x7_2).f3)] 39 (0, 0)) (by (with_reducible repeat (first | refine blk_drewN ?_ _ | refine blk_drew ?_ | refine blk_alloc ?_ _)); refine blk_put (cs := #[.int .i64 ((rd_T39 l1 x7_2).f0), .int .i64 ((rd_T39 l1 x7_2).f1), .string ((rd_T39 l1 x7_2).f2), .bool false]) ?_ 3 _ rfl; (with_reducible repeat (first | refine blk_drewN ?_ _ | refine blk_drew ?_ | refine blk_alloc ?_ _)); refine blk_put (cs := #[.int .i64 ((rd_T39 l1 x7_2).f0), .int .i64 ((rd_T39 l1 x7_2).f1), .string (⟨#[]⟩ : ByteArray), .bool false]) ?_ 2 _ rfl; (with_reducible repeat (first | refine blk_drewN ?_ _ | refine blk_drew ?_ | refine blk_alloc ?_ _)); refine blk_put (cs := #[.int .i64 ((rd_T39 l1 x7_2).f0), .int .i64 0, .string (⟨#[]⟩ : ByteArray), .bool false]) ?_ 1 _ rfl; (with_reducible repeat (first | refine blk_drewN ?_ _ | refine blk_drew ?_ | refine blk_alloc ?_ _)); refine blk_put (cs := #[.int .i64 0, .int .i64 0, .string (⟨#[]⟩ : ByteArray), .bool false]) ?_ 0 _ rfl; (with_reducible repeat (first | refine blk_drewN ?_ _ | refine blk_drew ?_ | refine blk_alloc ?_ _)); exact BK277.out) hb); have n2_ := Aside0.mk (below_step (by repeat (first | (with_reducible first | exact HB.out | apply below_alloc | apply pw_below_drewN | apply below_drew1 | refine below_set ?_ GE273.out | refine below_set ?_ GE277.out) | exact HB.out)) hb); have n3_ := Aside0.mk (hbox); have n4_ := Aside0.mk ((by rw [hg]; exact (below_size (by repeat (first | (with_reducible first | exact HB.out | apply below_alloc | apply pw_below_drewN | apply below_drew1 | refine below_set ?_ GE273.out | refine below_set ?_ GE277.out) | exact HB.out))) : w.heap.size ≤ gb278)); have n5_ := Aside0.mk ((by rw [hg]; exact (below_size (by repeat (first | (with_reducible first | exact HB.out | apply below_alloc | apply pw_below_drewN | apply below_drew1 | refine below_set ?_ GE273.out | refine below_set ?_ GE277.out) | exact HB.out))) : w.heap.size ≤ gb278)); have n6_ := Aside0.mk ((by rw [hg]; exact Nat.ne_of_lt (blk_lt (g := gb273) (o := .cells #[.string x274000_2, .int .i64 x274001_2, .int .i64 x274002_2] 23 (0, 0)) (by (with_reducible repeat (first | refine blk_drewN ?_ _ | refine blk_drew ?_ | refine blk_alloc ?_ _)); refine blk_far ?_ NB273_277.out _; (with_reducible repeat (first | refine blk_drewN ?_ _ | refine blk_drew ?_ | refine blk_alloc ?_ _)); refine blk_far ?_ NB273_277.out _; (with_reducible repeat (first | refine blk_drewN ?_ _ | refine blk_drew ?_ | refine blk_alloc ?_ _)); refine blk_far ?_ NB273_277.out _; (with_reducible repeat (first | refine blk_drewN ?_ _ | refine blk_drew ?_ | refine blk_alloc ?_ _)); refine blk_far ?_ NB273_277.out _; (with_reducible repeat (first | refine blk_drewN ?_ _ | refine blk_drew ?_ | refine blk_alloc ?_ _)); exact BK273.out)) : gb273 ≠ gb278)); have n7_ := Aside0.mk ((by rw [hg]; exact Nat.ne_of_gt (blk_lt (g := gb273) (o := .cells #[.string x274000_2, .int .i64 x274001_2, .int .i64 x274002_2] 23 (0, 0)) (by (with_reducible repeat (first | refine blk_drewN ?_ _ | refine blk_drew ?_ | refine blk_alloc ?_ _)); refine blk_far ?_ NB273_277.out _; (with_reducible repeat (first | refine blk_drewN ?_ _ | refine blk_drew ?_ | refine blk_alloc ?_ _)); refine blk_far ?_ NB273_277.out _; (with_reducible repeat (first | refine blk_drewN ?_ _ | refine blk_drew ?_ | refine blk_alloc ?_ _)); refine blk_far ?_ NB273_277.out _; (with_reducible repeat (first | refine blk_drewN ?_ _ | refine blk_drew ?_ | refine blk_alloc ?_ _)); refine blk_far ?_ NB273_277.out _; (with_reducible repeat (first | refine blk_drewN ?_ _ | refine blk_drew ?_ | refine blk_alloc ?_ _)); exact BK273.out)) : gb278 ≠ gb273)); have n8_ := Aside0.mk ((by rw [hg]; exact Nat.ne_of_lt (blk_lt (g := gb277) (o := .cells #[.int .i64 ((rd_T39 l1 x7_2).f0), .int .i64 ((rd_T39 l1 x7_2).f1), .string ((rd_T39 l1 x7_2).f2), .bool ((rd_T39 l1 x7_2).f3)] 39 (0, 0)) (by (with_reducible repeat (first | refine blk_drewN ?_ _ | refine blk_drew ?_ | refine blk_alloc ?_ _)); refine blk_put (cs := #[.int .i64 ((rd_T39 l1 x7_2).f0), .int .i64 ((rd_T39 l1 x7_2).f1), .string ((rd_T39 l1 x7_2).f2), .bool false]) ?_ 3 _ rfl; (with_reducible repeat (first | refine blk_drewN ?_ _ | refine blk_drew ?_ | refine blk_alloc ?_ _)); refine blk_put (cs := #[.int .i64 ((rd_T39 l1 x7_2).f0), .int .i64 ((rd_T39 l1 x7_2).f1), .string (⟨#[]⟩ : ByteArray), .bool false]) ?_ 2 _ rfl; (with_reducible repeat (first | refine blk_drewN ?_ _ | refine blk_drew ?_ | refine blk_alloc ?_ _)); refine blk_put (cs := #[.int .i64 ((rd_T39 l1 x7_2).f0), .int .i64 0, .string (⟨#[]⟩ : ByteArray), .bool false]) ?_ 1 _ rfl; (with_reducible repeat (first | refine blk_drewN ?_ _ | refine blk_drew ?_ | refine blk_alloc ?_ _)); refine blk_put (cs := #[.int .i64 0, .int .i64 0, .string (⟨#[]⟩ : ByteArray), .bool false]) ?_ 0 _ rfl; (with_reducible repeat (first | refine blk_drewN ?_ _ | refine blk_drew ?_ | refine blk_alloc ?_ _)); exact BK277.out)) : gb277 ≠ gb278)); have n9_ := Aside0.mk ((by rw [hg]; exact Nat.ne_of_gt (blk_lt (g := gb277) (o := .cells #[.int .i64 ((rd_T39 l1 x7_2).f0), .int .i64 ((rd_T39 l1 x7_2).f1), .string ((rd_T39 l1 x7_2).f2), .bool ((rd_T39 l1 x7_2).f3)] 39 (0, 0)) (by (with_reducible repeat (first | refine blk_drewN ?_ _ | refine blk_drew ?_ | refine blk_alloc ?_ _)); refine blk_put (cs := #[.int .i64 ((rd_T39 l1 x7_2).f0), .int .i64 ((rd_T39 l1 x7_2).f1), .string ((rd_T39 l1 x7_2).f2), .bool false]) ?_ 3 _ rfl; (with_reducible repeat (first | refine blk_drewN ?_ _ | refine blk_drew ?_ | refine blk_alloc ?_ _)); refine blk_put (cs := #[.int .i64 ((rd_T39 l1 x7_2).f0), .int .i64 ((rd_T39 l1 x7_2).f1), .string (⟨#[]⟩ : ByteArray), .bool false]) ?_ 2 _ rfl; (with_reducible repeat (first | refine blk_drewN ?_ _ | refine blk_drew ?_ | refine blk_alloc ?_ _)); refine blk_put (cs := #[.int .i64 ((rd_T39 l1 x7_2).f0), .int .i64 0, .string (⟨#[]⟩ : ByteArray), .bool false]) ?_ 1 _ rfl; (with_reducible repeat (first | refine blk_drewN ?_ _ | refine blk_drew ?_ | refine blk_alloc ?_ _)); refine blk_put (cs := #[.int .i64 0, .int .i64 0, .string (⟨#[]⟩ : ByteArray), .bool false]) ?_ 0 _ rfl; (with_reducible repeat (first | refine blk_drewN ?_ _ | refine blk_drew ?_ | refine blk_alloc ?_ _)); exact BK277.out)) : gb278 ≠ gb277)); clear BK273; clear BK277; clear HB; have BK273 := n0_; have BK277 := n1_; have HB := n2_; have BK278 := n3_; have GW278 := n4_; have GE278 := n5_; have NB273_278 := n6_; have NB278_273 := n7_; have NB277_278 := n8_; have NB278_277 := n9_; clear n0_ n1_ n2_ n3_ n4_ n5_ n6_ n7_ n8_ n9_; clear hb hbox hg; have hnb25 := NB278_273.out; have hnc25 := NB273_278.out; have hnb26 := NB278_277.out; have hnc26 := NB277_278.out; have hcz27_0 : w24.cell? ⟨gb278, 0, none⟩ = some (.string (⟨#[]⟩ : ByteArray)) := (blk_cell BK278.out 0).trans rfl; have hcz27_1 : w24.cell? ⟨gb278, 1, none⟩ = some (.int .i64 0) := (blk_cell BK278.out 1).trans rfl; have hcz27_2 : w24.cell? ⟨gb278, 2, none⟩ = some (.int .i64 0) := (blk_cell BK278.out 2).trans rfl; have hfz27_0 := blk_frozen BK278.out 0; have hfz27_1 := blk_frozen BK278.out 1; have hfz27_2 := blk_frozen BK278.out 2; have hcz28_0 : w24.cell? ⟨gb277, 0, none⟩ = some (.int .i64 ((rd_T39 l1 x7_2).f0)) := (blk_cell BK277.out 0).trans rfl; have hcz28_1 : w24.cell? ⟨gb277, 1, none⟩ = some (.int .i64 ((rd_T39 l1 x7_2).f1)) := (blk_cell BK277.out 1).trans rfl; have hcz28_2 : w24.cell? ⟨gb277, 2, none⟩ = some (.string ((rd_T39 l1 x7_2).f2)) := (blk_cell BK277.out 2).trans rfl; have hcz28_3 : w24.cell? ⟨gb277, 3, none⟩ = some (.bool ((rd_T39 l1 x7_2).f3)) := (blk_cell BK277.out 3).trans rfl; have hfz28_0 := blk_frozen BK277.out 0; have hfz28_1 := blk_frozen BK277.out 1; have hfz28_2 := blk_frozen BK277.out 2; have hfz28_3 := blk_frozen BK277.out 3))
                  (try simp only [Act.put, List.setIfInBounds_toArray, List.set_cons_zero, List.set_cons_succ])
                  go_cut [5, 6, 10] (fun v5 v6 v10 wc => ∃ (kq : Nat) (x5_18 : ByteArray) (x6_18 : ByteArray) (x10_18 : Int) (x279000_18 : ByteArray) (x279001_18 : Int) (x279002_18 : Int), v5 = .string x5_18 ∧ v6 = .string x6_18 ∧ v10 = .int .i64 x10_18 ∧ Aside0 (emulatorlaw42_PipeOrder.j2 kq l1 x5_18 x6_18 x7_2 x10_18 x274000_2 x274001_2 x274002_2 x279000_18 x279001_18 x279002_18 = some r) ∧ Aside0 (kq ≤ k2) ∧ Aside0 (wc.heap[gb273]? = some (.cells #[.string x274000_2, .int .i64 x274001_2, .int .i64 x274002_2] 23 (0, 0))) ∧ Aside0 (wc.heap[gb277]? = some (.cells #[.int .i64 ((rd_T39 l1 x7_2).f0), .int .i64 ((rd_T39 l1 x7_2).f1), .string ((rd_T39 l1 x7_2).f2), .bool ((rd_T39 l1 x7_2).f3)] 39 (0, 0))) ∧ Aside0 (wc.heap[gb278]? = some (.cells #[.string x279000_18, .int .i64 x279001_18, .int .i64 x279002_18] 23 (0, 0))) ∧ Aside0 (Below w.heap.size w wc))
                  case first =>
                    have H := HC19.out
                    clear HC19
                    by_cases c29 : ((rd_T39 l1 x7_2).f0) = 0
                    · rw [if_pos c29] at H
                      have c29b0 : (((rd_T39 l1 x7_2).f0) == 0) = true := beq_iff_eq.mpr c29
                      have c29b1 : (((rd_T39 l1 x7_2).f0) != 0) = false := bne_eq_false_iff_eq.mpr c29
                      clear c29
                      (first | rw [c29b0] | (simp only [i64_w, i32_w]; rw [c29b0]) | skip)
                      replace H := Option.bind_eq_some_iff.mp H
                      obtain ⟨⟨t279, t280, t281, t282, t283⟩, A300, H⟩ := H
                      replace H : (if x6_2.size + t282.size ≤ 9223372036854775807 then (emulatorlaw42_PipeOrder.j2 k2 l1 x5_2 (x6_2 ++ t282) x7_2 t283 x274000_2 x274001_2 x274002_2 t279 t280 t281) else (none)) = some r := H
                      have A30 := Aside0.mk A300
                      clear A300
                      by_cases c31 : x6_2.size + t282.size ≤ 9223372036854775807
                      · rw [if_pos c31] at H
                        have c31b0 := eq_true c31
                        have c31b1 : decide (x6_2.size + t282.size ≤ 9223372036854775807) = true := decide_eq_true c31
                        try have c31b2 : (9223372036854775807 < x6_2.size + t282.size) = False := eq_false (Nat.not_lt.2 c31)
                        have H' := Aside0.mk H
                        clear H
                        have hnb32 := NB273_277.out
                        have hnc32 := NB277_273.out
                        have hnb33 := NB273_278.out
                        have hnc33 := NB278_273.out
                        have hcz34_0 : w24.cell? ⟨gb273, 0, none⟩ = some (.string x274000_2) := (blk_cell BK273.out 0).trans rfl
                        have hcz34_1 : w24.cell? ⟨gb273, 1, none⟩ = some (.int .i64 x274001_2) := (blk_cell BK273.out 1).trans rfl
                        have hcz34_2 : w24.cell? ⟨gb273, 2, none⟩ = some (.int .i64 x274002_2) := (blk_cell BK273.out 2).trans rfl
                        have hfz34_0 := blk_frozen BK273.out 0
                        have hfz34_1 := blk_frozen BK273.out 1
                        have hfz34_2 := blk_frozen BK273.out 2
                        have hnb35 := NB277_278.out
                        have hnc35 := NB278_277.out
                        have hcz36_0 : w24.cell? ⟨gb277, 0, none⟩ = some (.int .i64 ((rd_T39 l1 x7_2).f0)) := (blk_cell BK277.out 0).trans rfl
                        have hcz36_1 : w24.cell? ⟨gb277, 1, none⟩ = some (.int .i64 ((rd_T39 l1 x7_2).f1)) := (blk_cell BK277.out 1).trans rfl
                        have hcz36_2 : w24.cell? ⟨gb277, 2, none⟩ = some (.string ((rd_T39 l1 x7_2).f2)) := (blk_cell BK277.out 2).trans rfl
                        have hcz36_3 : w24.cell? ⟨gb277, 3, none⟩ = some (.bool ((rd_T39 l1 x7_2).f3)) := (blk_cell BK277.out 3).trans rfl
                        have hfz36_0 := blk_frozen BK277.out 0
                        have hfz36_1 := blk_frozen BK277.out 1
                        have hfz36_2 := blk_frozen BK277.out 2
                        have hfz36_3 := blk_frozen BK277.out 3
                        go_wp2_with (first | ((with_reducible refine gate_callee (f := 14) rfl ?_); refine goesL_ (some 46) rfl rfl Try.func14 (by kernel_rfl) rfl #[.agg #[.string x274000_2, .int .i64 x274001_2, .int .i64 x274002_2], .int .i64 ((rd_T39 l1 x7_2).f1)] rfl (by (try simp only [List.map_toArray, List.map_cons, List.map_nil]); first | done | rfl | (simp only [List.length_drop, List.length_take]; rfl)) ?_; (with_reducible refine (pipe_Read.calls x274000_2 x274001_2 x274002_2 ((rd_T39 l1 x7_2).f1) t279 t280 t281 t282 t283 _ A30.out).mono ?_); rintro e w37 ⟨rfl, hb⟩; refine ⟨_, rfl, ?_⟩; have n0_ := Aside0.mk (blk_below (g := gb273) (o := .cells #[.string x274000_2, .int .i64 x274001_2, .int .i64 x274002_2] 23 (0, 0)) (by (with_reducible repeat (first | refine blk_drewN ?_ _ | refine blk_drew ?_ | refine blk_alloc ?_ _)); refine blk_far ?_ NB273_278.out _; (with_reducible repeat (first | refine blk_drewN ?_ _ | refine blk_drew ?_ | refine blk_alloc ?_ _)); refine blk_far ?_ NB273_278.out _; (with_reducible repeat (first | refine blk_drewN ?_ _ | refine blk_drew ?_ | refine blk_alloc ?_ _)); refine blk_far ?_ NB273_278.out _; (with_reducible repeat (first | refine blk_drewN ?_ _ | refine blk_drew ?_ | refine blk_alloc ?_ _)); exact BK273.out) hb); have n1_ := Aside0.mk (blk_below (g := gb277) (o := .cells #[.int .i64 ((rd_T39 l1 x7_2).f0), .int .i64 ((rd_T39 l1 x7_2).f1), .string ((rd_T39 l1 x7_2).f2), .bool ((rd_T39 l1 x7_2).f3)] 39 (0, 0)) (by (with_reducible repeat (first | refine blk_drewN ?_ _ | refine blk_drew ?_ | refine blk_alloc ?_ _)); refine blk_far ?_ NB277_278.out _; (with_reducible repeat (first | refine blk_drewN ?_ _ | refine blk_drew ?_ | refine blk_alloc ?_ _)); refine blk_far ?_ NB277_278.out _; (with_reducible repeat (first | refine blk_drewN ?_ _ | refine blk_drew ?_ | refine blk_alloc ?_ _)); refine blk_far ?_ NB277_278.out _; (with_reducible repeat (first | refine blk_drewN ?_ _ | refine blk_drew ?_ | refine blk_alloc ?_ _)); exact BK277.out) hb); have n2_ := Aside0.mk (blk_below (g := gb278) (o := .cells #[.string x274000_2, .int .i64 x274001_2, .int .i64 x274002_2] 23 (0, 0)) (by (with_reducible repeat (first | refine blk_drewN ?_ _ | refine blk_drew ?_ | refine blk_alloc ?_ _)); refine blk_put (cs := #[.string x274000_2, .int .i64 x274001_2, .int .i64 0]) ?_ 2 _ rfl; (with_reducible repeat (first | refine blk_drewN ?_ _ | refine blk_drew ?_ | refine blk_alloc ?_ _)); refine blk_put (cs := #[.string x274000_2, .int .i64 0, .int .i64 0]) ?_ 1 _ rfl; (with_reducible repeat (first | refine blk_drewN ?_ _ | refine blk_drew ?_ | refine blk_alloc ?_ _)); refine blk_put (cs := #[.string (⟨#[]⟩ : ByteArray), .int .i64 0, .int .i64 0]) ?_ 0 _ rfl; (with_reducible repeat (first | refine blk_drewN ?_ _ | refine blk_drew ?_ | refine blk_alloc ?_ _)); exact BK278.out) hb); have n3_ := Aside0.mk (below_step (by repeat (first | (with_reducible first | exact HB.out | apply below_alloc | apply pw_below_drewN | apply below_drew1 | refine below_set ?_ GE273.out | refine below_set ?_ GE277.out | refine below_set ?_ GE278.out) | exact HB.out)) hb); clear BK273; clear BK277; clear BK278; clear HB; have BK273 := n0_; have BK277 := n1_; have BK278 := n2_; have HB := n3_; clear n0_ n1_ n2_ n3_; (try clear hb); (try clear hb2); (try clear hk); (try clear hi); have hcz38_0 : w37.cell? ⟨gb278, 0, none⟩ = some (.string x274000_2) := (blk_cell BK278.out 0).trans rfl; have hcz38_1 : w37.cell? ⟨gb278, 1, none⟩ = some (.int .i64 x274001_2) := (blk_cell BK278.out 1).trans rfl; have hcz38_2 : w37.cell? ⟨gb278, 2, none⟩ = some (.int .i64 x274002_2) := (blk_cell BK278.out 2).trans rfl; have hfz38_0 := blk_frozen BK278.out 0; have hfz38_1 := blk_frozen BK278.out 1; have hfz38_2 := blk_frozen BK278.out 2))
                        go_meet
                        case rel => exact ⟨_, (x5_2), (x6_2 ++ t282), (t283), (t279), (t280), (t281), (by first | rfl | (simp; done) | (simp [*]; done)), (by first | rfl | (simp; done) | (simp [*]; done)), (by first | rfl | (simp; done) | (simp [*]; done)), H', ⟨by have := HJ2.out; have := HK2.out; first | omega | exact Nat.le_refl _⟩, ⟨by (with_reducible repeat (first | refine blk_drewN ?_ _ | refine blk_drew ?_ | refine blk_alloc ?_ _)); refine blk_far ?_ NB273_278.out _; (with_reducible repeat (first | refine blk_drewN ?_ _ | refine blk_drew ?_ | refine blk_alloc ?_ _)); refine blk_far ?_ NB273_278.out _; (with_reducible repeat (first | refine blk_drewN ?_ _ | refine blk_drew ?_ | refine blk_alloc ?_ _)); refine blk_far ?_ NB273_278.out _; (with_reducible repeat (first | refine blk_drewN ?_ _ | refine blk_drew ?_ | refine blk_alloc ?_ _)); exact BK273.out⟩, ⟨by (with_reducible repeat (first | refine blk_drewN ?_ _ | refine blk_drew ?_ | refine blk_alloc ?_ _)); refine blk_far ?_ NB277_278.out _; (with_reducible repeat (first | refine blk_drewN ?_ _ | refine blk_drew ?_ | refine blk_alloc ?_ _)); refine blk_far ?_ NB277_278.out _; (with_reducible repeat (first | refine blk_drewN ?_ _ | refine blk_drew ?_ | refine blk_alloc ?_ _)); refine blk_far ?_ NB277_278.out _; (with_reducible repeat (first | refine blk_drewN ?_ _ | refine blk_drew ?_ | refine blk_alloc ?_ _)); exact BK277.out⟩, ⟨by (with_reducible repeat (first | refine blk_drewN ?_ _ | refine blk_drew ?_ | refine blk_alloc ?_ _)); refine blk_put (cs := #[.string t279, .int .i64 t280, .int .i64 x274002_2]) ?_ 2 _ rfl; (with_reducible repeat (first | refine blk_drewN ?_ _ | refine blk_drew ?_ | refine blk_alloc ?_ _)); refine blk_put (cs := #[.string t279, .int .i64 x274001_2, .int .i64 x274002_2]) ?_ 1 _ rfl; (with_reducible repeat (first | refine blk_drewN ?_ _ | refine blk_drew ?_ | refine blk_alloc ?_ _)); refine blk_put (cs := #[.string x274000_2, .int .i64 x274001_2, .int .i64 x274002_2]) ?_ 0 _ rfl; (with_reducible repeat (first | refine blk_drewN ?_ _ | refine blk_drew ?_ | refine blk_alloc ?_ _)); exact BK278.out⟩, ⟨by repeat (first | (with_reducible first | exact HB.out | apply below_alloc | apply pw_below_drewN | apply below_drew1 | refine below_set ?_ GE273.out | refine below_set ?_ GE277.out | refine below_set ?_ GE278.out) | exact HB.out)⟩⟩
                      · rw [if_neg c31] at H
                        exact absurd H (by simp)
                    · rw [if_neg c29] at H
                      have c29b0 : (((rd_T39 l1 x7_2).f0) == 0) = false := beq_eq_false_iff_ne.mpr c29
                      have c29b1 : (((rd_T39 l1 x7_2).f0) != 0) = true := bne_iff_ne.mpr c29
                      (first | rw [c29b0] | (simp only [i64_w, i32_w]; rw [c29b0]) | skip)
                      by_cases c39 : ((rd_T39 l1 x7_2).f0) = 1
                      · rw [if_pos c39] at H
                        have c39b0 : (((rd_T39 l1 x7_2).f0) == 1) = true := beq_iff_eq.mpr c39
                        have c39b1 : (((rd_T39 l1 x7_2).f0) != 1) = false := bne_eq_false_iff_eq.mpr c39
                        clear c39
                        replace H := Option.bind_eq_some_iff.mp H
                        obtain ⟨⟨t284, t285, t286, t287, t288⟩, A400, H⟩ := H
                        replace H : (if t287 < 0 then (some false) else (if t287 > (((rd_T39 l1 x7_2).f2).size : Int) then (some false) else (if 0 ≤ t287 then (if t287 ≤ (((rd_T39 l1 x7_2).f2).size : Int) then (if x5_2.size + (((rd_T39 l1 x7_2).f2).extract 0 (t287 : Int).toNat).size ≤ 9223372036854775807 then (emulatorlaw42_PipeOrder.j2 k2 l1 (x5_2 ++ (((rd_T39 l1 x7_2).f2).extract 0 (t287 : Int).toNat)) x6_2 x7_2 t288 x274000_2 x274001_2 x274002_2 t284 t285 t286) else (none)) else (none)) else (none)))) = some r := H
                        have A40 := Aside0.mk A400
                        clear A400
                        by_cases c41 : t287 < 0
                        · rw [if_pos c41] at H
                          exact absurd (H.trans (congrArg some hr_.out)) (by decide)
                        · rw [if_neg c41] at H
                          have c41b0 : decide (t287 < 0) = false := decide_eq_false c41
                          clear c41
                          by_cases c49 : t287 > (((rd_T39 l1 x7_2).f2).size : Int)
                          · rw [if_pos c49] at H
                            exact absurd (H.trans (congrArg some hr_.out)) (by decide)
                          · rw [if_neg c49] at H
                            have c49b0 : decide ((((rd_T39 l1 x7_2).f2).size : Int) < t287) = false := decide_eq_false c49
                            clear c49
                            by_cases c58 : 0 ≤ t287
                            · rw [if_pos c58] at H
                              have c58b0 := eq_true c58
                              have c58b1 : decide (0 ≤ t287) = true := decide_eq_true c58
                              clear c58
                              by_cases c59 : t287 ≤ (((rd_T39 l1 x7_2).f2).size : Int)
                              · rw [if_pos c59] at H
                                have c59b0 := eq_true c59
                                have c59b1 : decide (t287 ≤ (((rd_T39 l1 x7_2).f2).size : Int)) = true := decide_eq_true c59
                                clear c59
                                by_cases c60 : x5_2.size + (((rd_T39 l1 x7_2).f2).extract 0 (t287 : Int).toNat).size ≤ 9223372036854775807
                                · rw [if_pos c60] at H
                                  have c60b0 := eq_true c60
                                  have c60b1 : decide (x5_2.size + (((rd_T39 l1 x7_2).f2).extract 0 (t287 : Int).toNat).size ≤ 9223372036854775807) = true := decide_eq_true c60
                                  try have c60b2 : (9223372036854775807 < x5_2.size + (((rd_T39 l1 x7_2).f2).extract 0 (t287 : Int).toNat).size) = False := eq_false (Nat.not_lt.2 c60)
                                  have H' := Aside0.mk H
                                  clear H
                                  have hnb61 := NB273_277.out
                                  have hnc61 := NB277_273.out
                                  have hnb62 := NB273_278.out
                                  have hnc62 := NB278_273.out
                                  have hcz63_0 : w24.cell? ⟨gb273, 0, none⟩ = some (.string x274000_2) := (blk_cell BK273.out 0).trans rfl
                                  have hcz63_1 : w24.cell? ⟨gb273, 1, none⟩ = some (.int .i64 x274001_2) := (blk_cell BK273.out 1).trans rfl
                                  have hcz63_2 : w24.cell? ⟨gb273, 2, none⟩ = some (.int .i64 x274002_2) := (blk_cell BK273.out 2).trans rfl
                                  have hfz63_0 := blk_frozen BK273.out 0
                                  have hfz63_1 := blk_frozen BK273.out 1
                                  have hfz63_2 := blk_frozen BK273.out 2
                                  have hnb64 := NB277_278.out
                                  have hnc64 := NB278_277.out
                                  have hcz65_0 : w24.cell? ⟨gb277, 0, none⟩ = some (.int .i64 ((rd_T39 l1 x7_2).f0)) := (blk_cell BK277.out 0).trans rfl
                                  have hcz65_1 : w24.cell? ⟨gb277, 1, none⟩ = some (.int .i64 ((rd_T39 l1 x7_2).f1)) := (blk_cell BK277.out 1).trans rfl
                                  have hcz65_2 : w24.cell? ⟨gb277, 2, none⟩ = some (.string ((rd_T39 l1 x7_2).f2)) := (blk_cell BK277.out 2).trans rfl
                                  have hcz65_3 : w24.cell? ⟨gb277, 3, none⟩ = some (.bool ((rd_T39 l1 x7_2).f3)) := (blk_cell BK277.out 3).trans rfl
                                  have hfz65_0 := blk_frozen BK277.out 0
                                  have hfz65_1 := blk_frozen BK277.out 1
                                  have hfz65_2 := blk_frozen BK277.out 2
                                  have hfz65_3 := blk_frozen BK277.out 3
                                  go_wp2_with (first | ((with_reducible refine gate_callee (f := 16) rfl ?_); refine goesL_ (some 59) rfl rfl Try.func16 (by kernel_rfl) rfl #[.agg #[.string x274000_2, .int .i64 x274001_2, .int .i64 x274002_2], .string ((rd_T39 l1 x7_2).f2)] rfl (by (try simp only [List.map_toArray, List.map_cons, List.map_nil]); first | done | rfl | (simp only [List.length_drop, List.length_take]; rfl)) ?_; (with_reducible refine (pipe_Write.calls x274000_2 x274001_2 x274002_2 ((rd_T39 l1 x7_2).f2) t284 t285 t286 t287 t288 _ A40.out).mono ?_); rintro e w66 ⟨rfl, hb⟩; refine ⟨_, rfl, ?_⟩; have n0_ := Aside0.mk (blk_below (g := gb273) (o := .cells #[.string x274000_2, .int .i64 x274001_2, .int .i64 x274002_2] 23 (0, 0)) (by (with_reducible repeat (first | refine blk_drewN ?_ _ | refine blk_drew ?_ | refine blk_alloc ?_ _)); refine blk_far ?_ NB273_278.out _; (with_reducible repeat (first | refine blk_drewN ?_ _ | refine blk_drew ?_ | refine blk_alloc ?_ _)); refine blk_far ?_ NB273_278.out _; (with_reducible repeat (first | refine blk_drewN ?_ _ | refine blk_drew ?_ | refine blk_alloc ?_ _)); refine blk_far ?_ NB273_278.out _; (with_reducible repeat (first | refine blk_drewN ?_ _ | refine blk_drew ?_ | refine blk_alloc ?_ _)); exact BK273.out) hb); have n1_ := Aside0.mk (blk_below (g := gb277) (o := .cells #[.int .i64 ((rd_T39 l1 x7_2).f0), .int .i64 ((rd_T39 l1 x7_2).f1), .string ((rd_T39 l1 x7_2).f2), .bool ((rd_T39 l1 x7_2).f3)] 39 (0, 0)) (by (with_reducible repeat (first | refine blk_drewN ?_ _ | refine blk_drew ?_ | refine blk_alloc ?_ _)); refine blk_far ?_ NB277_278.out _; (with_reducible repeat (first | refine blk_drewN ?_ _ | refine blk_drew ?_ | refine blk_alloc ?_ _)); refine blk_far ?_ NB277_278.out _; (with_reducible repeat (first | refine blk_drewN ?_ _ | refine blk_drew ?_ | refine blk_alloc ?_ _)); refine blk_far ?_ NB277_278.out _; (with_reducible repeat (first | refine blk_drewN ?_ _ | refine blk_drew ?_ | refine blk_alloc ?_ _)); exact BK277.out) hb); have n2_ := Aside0.mk (blk_below (g := gb278) (o := .cells #[.string x274000_2, .int .i64 x274001_2, .int .i64 x274002_2] 23 (0, 0)) (by (with_reducible repeat (first | refine blk_drewN ?_ _ | refine blk_drew ?_ | refine blk_alloc ?_ _)); refine blk_put (cs := #[.string x274000_2, .int .i64 x274001_2, .int .i64 0]) ?_ 2 _ rfl; (with_reducible repeat (first | refine blk_drewN ?_ _ | refine blk_drew ?_ | refine blk_alloc ?_ _)); refine blk_put (cs := #[.string x274000_2, .int .i64 0, .int .i64 0]) ?_ 1 _ rfl; (with_reducible repeat (first | refine blk_drewN ?_ _ | refine blk_drew ?_ | refine blk_alloc ?_ _)); refine blk_put (cs := #[.string (⟨#[]⟩ : ByteArray), .int .i64 0, .int .i64 0]) ?_ 0 _ rfl; (with_reducible repeat (first | refine blk_drewN ?_ _ | refine blk_drew ?_ | refine blk_alloc ?_ _)); exact BK278.out) hb); have n3_ := Aside0.mk (below_step (by repeat (first | (with_reducible first | exact HB.out | apply below_alloc | apply pw_below_drewN | apply below_drew1 | refine below_set ?_ GE273.out | refine below_set ?_ GE277.out | refine below_set ?_ GE278.out) | exact HB.out)) hb); clear BK273; clear BK277; clear BK278; clear HB; have BK273 := n0_; have BK277 := n1_; have BK278 := n2_; have HB := n3_; clear n0_ n1_ n2_ n3_; (try clear hb); (try clear hb2); (try clear hk); (try clear hi); have hcz67_0 : w66.cell? ⟨gb278, 0, none⟩ = some (.string x274000_2) := (blk_cell BK278.out 0).trans rfl; have hcz67_1 : w66.cell? ⟨gb278, 1, none⟩ = some (.int .i64 x274001_2) := (blk_cell BK278.out 1).trans rfl; have hcz67_2 : w66.cell? ⟨gb278, 2, none⟩ = some (.int .i64 x274002_2) := (blk_cell BK278.out 2).trans rfl; have hfz67_0 := blk_frozen BK278.out 0; have hfz67_1 := blk_frozen BK278.out 1; have hfz67_2 := blk_frozen BK278.out 2; have hcz68_0 : w66.cell? ⟨gb277, 0, none⟩ = some (.int .i64 ((rd_T39 l1 x7_2).f0)) := (blk_cell BK277.out 0).trans rfl; have hcz68_1 : w66.cell? ⟨gb277, 1, none⟩ = some (.int .i64 ((rd_T39 l1 x7_2).f1)) := (blk_cell BK277.out 1).trans rfl; have hcz68_2 : w66.cell? ⟨gb277, 2, none⟩ = some (.string ((rd_T39 l1 x7_2).f2)) := (blk_cell BK277.out 2).trans rfl; have hcz68_3 : w66.cell? ⟨gb277, 3, none⟩ = some (.bool ((rd_T39 l1 x7_2).f3)) := (blk_cell BK277.out 3).trans rfl; have hfz68_0 := blk_frozen BK277.out 0; have hfz68_1 := blk_frozen BK277.out 1; have hfz68_2 := blk_frozen BK277.out 2; have hfz68_3 := blk_frozen BK277.out 3))
                                  go_meet
                                  case rel => exact ⟨_, (x5_2 ++ (((rd_T39 l1 x7_2).f2).extract 0 (t287 : Int).toNat)), (x6_2), (t288), (t284), (t285), (t286), (by first | rfl | (simp; done) | (simp [*]; done)), (by first | rfl | (simp; done) | (simp [*]; done)), (by first | rfl | (simp; done) | (simp [*]; done)), H', ⟨by have := HJ2.out; have := HK2.out; first | omega | exact Nat.le_refl _⟩, ⟨by (with_reducible repeat (first | refine blk_drewN ?_ _ | refine blk_drew ?_ | refine blk_alloc ?_ _)); refine blk_far ?_ NB273_278.out _; (with_reducible repeat (first | refine blk_drewN ?_ _ | refine blk_drew ?_ | refine blk_alloc ?_ _)); refine blk_far ?_ NB273_278.out _; (with_reducible repeat (first | refine blk_drewN ?_ _ | refine blk_drew ?_ | refine blk_alloc ?_ _)); refine blk_far ?_ NB273_278.out _; (with_reducible repeat (first | refine blk_drewN ?_ _ | refine blk_drew ?_ | refine blk_alloc ?_ _)); exact BK273.out⟩, ⟨by (with_reducible repeat (first | refine blk_drewN ?_ _ | refine blk_drew ?_ | refine blk_alloc ?_ _)); refine blk_far ?_ NB277_278.out _; (with_reducible repeat (first | refine blk_drewN ?_ _ | refine blk_drew ?_ | refine blk_alloc ?_ _)); refine blk_far ?_ NB277_278.out _; (with_reducible repeat (first | refine blk_drewN ?_ _ | refine blk_drew ?_ | refine blk_alloc ?_ _)); refine blk_far ?_ NB277_278.out _; (with_reducible repeat (first | refine blk_drewN ?_ _ | refine blk_drew ?_ | refine blk_alloc ?_ _)); exact BK277.out⟩, ⟨by (with_reducible repeat (first | refine blk_drewN ?_ _ | refine blk_drew ?_ | refine blk_alloc ?_ _)); refine blk_put (cs := #[.string t284, .int .i64 t285, .int .i64 x274002_2]) ?_ 2 _ rfl; (with_reducible repeat (first | refine blk_drewN ?_ _ | refine blk_drew ?_ | refine blk_alloc ?_ _)); refine blk_put (cs := #[.string t284, .int .i64 x274001_2, .int .i64 x274002_2]) ?_ 1 _ rfl; (with_reducible repeat (first | refine blk_drewN ?_ _ | refine blk_drew ?_ | refine blk_alloc ?_ _)); refine blk_put (cs := #[.string x274000_2, .int .i64 x274001_2, .int .i64 x274002_2]) ?_ 0 _ rfl; (with_reducible repeat (first | refine blk_drewN ?_ _ | refine blk_drew ?_ | refine blk_alloc ?_ _)); exact BK278.out⟩, ⟨by repeat (first | (with_reducible first | exact HB.out | apply below_alloc | apply pw_below_drewN | apply below_drew1 | refine below_set ?_ GE273.out | refine below_set ?_ GE277.out | refine below_set ?_ GE278.out) | exact HB.out)⟩⟩
                                · rw [if_neg c60] at H
                                  exact absurd H (by simp)
                              · rw [if_neg c59] at H
                                exact absurd H (by simp)
                            · rw [if_neg c58] at H
                              exact absurd H (by simp)
                      · rw [if_neg c39] at H
                        have c39b0 : (((rd_T39 l1 x7_2).f0) == 1) = false := beq_eq_false_iff_ne.mpr c39
                        have c39b1 : (((rd_T39 l1 x7_2).f0) != 1) = true := bne_iff_ne.mpr c39
                        by_cases c69 : ((rd_T39 l1 x7_2).f0) = 2
                        · rw [if_pos c69] at H
                          have c69b0 : (((rd_T39 l1 x7_2).f0) == 2) = true := beq_iff_eq.mpr c69
                          have c69b1 : (((rd_T39 l1 x7_2).f0) != 2) = false := bne_eq_false_iff_eq.mpr c69
                          clear c69
                          replace H := Option.bind_eq_some_iff.mp H
                          obtain ⟨⟨t289, t290, t291, t292⟩, A700, H⟩ := H
                          replace H : (emulatorlaw42_PipeOrder.j2 k2 l1 x5_2 x6_2 x7_2 t292 x274000_2 x274001_2 x274002_2 t289 t290 t291) = some r := H
                          have A70 := Aside0.mk A700
                          clear A700
                          have H' := Aside0.mk H
                          clear H
                          have hnb71 := NB273_277.out
                          have hnc71 := NB277_273.out
                          have hnb72 := NB273_278.out
                          have hnc72 := NB278_273.out
                          have hcz73_0 : w24.cell? ⟨gb273, 0, none⟩ = some (.string x274000_2) := (blk_cell BK273.out 0).trans rfl
                          have hcz73_1 : w24.cell? ⟨gb273, 1, none⟩ = some (.int .i64 x274001_2) := (blk_cell BK273.out 1).trans rfl
                          have hcz73_2 : w24.cell? ⟨gb273, 2, none⟩ = some (.int .i64 x274002_2) := (blk_cell BK273.out 2).trans rfl
                          have hfz73_0 := blk_frozen BK273.out 0
                          have hfz73_1 := blk_frozen BK273.out 1
                          have hfz73_2 := blk_frozen BK273.out 2
                          have hnb74 := NB277_278.out
                          have hnc74 := NB278_277.out
                          have hcz75_0 : w24.cell? ⟨gb277, 0, none⟩ = some (.int .i64 ((rd_T39 l1 x7_2).f0)) := (blk_cell BK277.out 0).trans rfl
                          have hcz75_1 : w24.cell? ⟨gb277, 1, none⟩ = some (.int .i64 ((rd_T39 l1 x7_2).f1)) := (blk_cell BK277.out 1).trans rfl
                          have hcz75_2 : w24.cell? ⟨gb277, 2, none⟩ = some (.string ((rd_T39 l1 x7_2).f2)) := (blk_cell BK277.out 2).trans rfl
                          have hcz75_3 : w24.cell? ⟨gb277, 3, none⟩ = some (.bool ((rd_T39 l1 x7_2).f3)) := (blk_cell BK277.out 3).trans rfl
                          have hfz75_0 := blk_frozen BK277.out 0
                          have hfz75_1 := blk_frozen BK277.out 1
                          have hfz75_2 := blk_frozen BK277.out 2
                          have hfz75_3 := blk_frozen BK277.out 3
                          go_wp2_with (first | ((with_reducible refine gate_callee (f := 18) rfl ?_); refine goesL_ (some 84) rfl rfl Try.func18 (by kernel_rfl) rfl #[.agg #[.string x274000_2, .int .i64 x274001_2, .int .i64 x274002_2], .bool ((rd_T39 l1 x7_2).f3)] rfl (by (try simp only [List.map_toArray, List.map_cons, List.map_nil]); first | done | rfl | (simp only [List.length_drop, List.length_take]; rfl)) ?_; (with_reducible refine (pipe_Close.calls x274000_2 x274001_2 x274002_2 ((rd_T39 l1 x7_2).f3) t289 t290 t291 t292 _ A70.out).mono ?_); rintro e w76 ⟨rfl, hb⟩; refine ⟨_, rfl, ?_⟩; have n0_ := Aside0.mk (blk_below (g := gb273) (o := .cells #[.string x274000_2, .int .i64 x274001_2, .int .i64 x274002_2] 23 (0, 0)) (by (with_reducible repeat (first | refine blk_drewN ?_ _ | refine blk_drew ?_ | refine blk_alloc ?_ _)); refine blk_far ?_ NB273_278.out _; (with_reducible repeat (first | refine blk_drewN ?_ _ | refine blk_drew ?_ | refine blk_alloc ?_ _)); refine blk_far ?_ NB273_278.out _; (with_reducible repeat (first | refine blk_drewN ?_ _ | refine blk_drew ?_ | refine blk_alloc ?_ _)); refine blk_far ?_ NB273_278.out _; (with_reducible repeat (first | refine blk_drewN ?_ _ | refine blk_drew ?_ | refine blk_alloc ?_ _)); exact BK273.out) hb); have n1_ := Aside0.mk (blk_below (g := gb277) (o := .cells #[.int .i64 ((rd_T39 l1 x7_2).f0), .int .i64 ((rd_T39 l1 x7_2).f1), .string ((rd_T39 l1 x7_2).f2), .bool ((rd_T39 l1 x7_2).f3)] 39 (0, 0)) (by (with_reducible repeat (first | refine blk_drewN ?_ _ | refine blk_drew ?_ | refine blk_alloc ?_ _)); refine blk_far ?_ NB277_278.out _; (with_reducible repeat (first | refine blk_drewN ?_ _ | refine blk_drew ?_ | refine blk_alloc ?_ _)); refine blk_far ?_ NB277_278.out _; (with_reducible repeat (first | refine blk_drewN ?_ _ | refine blk_drew ?_ | refine blk_alloc ?_ _)); refine blk_far ?_ NB277_278.out _; (with_reducible repeat (first | refine blk_drewN ?_ _ | refine blk_drew ?_ | refine blk_alloc ?_ _)); exact BK277.out) hb); have n2_ := Aside0.mk (blk_below (g := gb278) (o := .cells #[.string x274000_2, .int .i64 x274001_2, .int .i64 x274002_2] 23 (0, 0)) (by (with_reducible repeat (first | refine blk_drewN ?_ _ | refine blk_drew ?_ | refine blk_alloc ?_ _)); refine blk_put (cs := #[.string x274000_2, .int .i64 x274001_2, .int .i64 0]) ?_ 2 _ rfl; (with_reducible repeat (first | refine blk_drewN ?_ _ | refine blk_drew ?_ | refine blk_alloc ?_ _)); refine blk_put (cs := #[.string x274000_2, .int .i64 0, .int .i64 0]) ?_ 1 _ rfl; (with_reducible repeat (first | refine blk_drewN ?_ _ | refine blk_drew ?_ | refine blk_alloc ?_ _)); refine blk_put (cs := #[.string (⟨#[]⟩ : ByteArray), .int .i64 0, .int .i64 0]) ?_ 0 _ rfl; (with_reducible repeat (first | refine blk_drewN ?_ _ | refine blk_drew ?_ | refine blk_alloc ?_ _)); exact BK278.out) hb); have n3_ := Aside0.mk (below_step (by repeat (first | (with_reducible first | exact HB.out | apply below_alloc | apply pw_below_drewN | apply below_drew1 | refine below_set ?_ GE273.out | refine below_set ?_ GE277.out | refine below_set ?_ GE278.out) | exact HB.out)) hb); clear BK273; clear BK277; clear BK278; clear HB; have BK273 := n0_; have BK277 := n1_; have BK278 := n2_; have HB := n3_; clear n0_ n1_ n2_ n3_; (try clear hb); (try clear hb2); (try clear hk); (try clear hi); have hcz77_0 : w76.cell? ⟨gb278, 0, none⟩ = some (.string x274000_2) := (blk_cell BK278.out 0).trans rfl; have hcz77_1 : w76.cell? ⟨gb278, 1, none⟩ = some (.int .i64 x274001_2) := (blk_cell BK278.out 1).trans rfl; have hcz77_2 : w76.cell? ⟨gb278, 2, none⟩ = some (.int .i64 x274002_2) := (blk_cell BK278.out 2).trans rfl; have hfz77_0 := blk_frozen BK278.out 0; have hfz77_1 := blk_frozen BK278.out 1; have hfz77_2 := blk_frozen BK278.out 2))
                          go_meet
                          case rel => exact ⟨_, (x5_2), (x6_2), (t292), (t289), (t290), (t291), (by first | rfl | (simp; done) | (simp [*]; done)), (by first | rfl | (simp; done) | (simp [*]; done)), (by first | rfl | (simp; done) | (simp [*]; done)), H', ⟨by have := HJ2.out; have := HK2.out; first | omega | exact Nat.le_refl _⟩, ⟨by (with_reducible repeat (first | refine blk_drewN ?_ _ | refine blk_drew ?_ | refine blk_alloc ?_ _)); refine blk_far ?_ NB273_278.out _; (with_reducible repeat (first | refine blk_drewN ?_ _ | refine blk_drew ?_ | refine blk_alloc ?_ _)); refine blk_far ?_ NB273_278.out _; (with_reducible repeat (first | refine blk_drewN ?_ _ | refine blk_drew ?_ | refine blk_alloc ?_ _)); refine blk_far ?_ NB273_278.out _; (with_reducible repeat (first | refine blk_drewN ?_ _ | refine blk_drew ?_ | refine blk_alloc ?_ _)); exact BK273.out⟩, ⟨by (with_reducible repeat (first | refine blk_drewN ?_ _ | refine blk_drew ?_ | refine blk_alloc ?_ _)); refine blk_far ?_ NB277_278.out _; (with_reducible repeat (first | refine blk_drewN ?_ _ | refine blk_drew ?_ | refine blk_alloc ?_ _)); refine blk_far ?_ NB277_278.out _; (with_reducible repeat (first | refine blk_drewN ?_ _ | refine blk_drew ?_ | refine blk_alloc ?_ _)); refine blk_far ?_ NB277_278.out _; (with_reducible repeat (first | refine blk_drewN ?_ _ | refine blk_drew ?_ | refine blk_alloc ?_ _)); exact BK277.out⟩, ⟨by (with_reducible repeat (first | refine blk_drewN ?_ _ | refine blk_drew ?_ | refine blk_alloc ?_ _)); refine blk_put (cs := #[.string t289, .int .i64 t290, .int .i64 x274002_2]) ?_ 2 _ rfl; (with_reducible repeat (first | refine blk_drewN ?_ _ | refine blk_drew ?_ | refine blk_alloc ?_ _)); refine blk_put (cs := #[.string t289, .int .i64 x274001_2, .int .i64 x274002_2]) ?_ 1 _ rfl; (with_reducible repeat (first | refine blk_drewN ?_ _ | refine blk_drew ?_ | refine blk_alloc ?_ _)); refine blk_put (cs := #[.string x274000_2, .int .i64 x274001_2, .int .i64 x274002_2]) ?_ 0 _ rfl; (with_reducible repeat (first | refine blk_drewN ?_ _ | refine blk_drew ?_ | refine blk_alloc ?_ _)); exact BK278.out⟩, ⟨by repeat (first | (with_reducible first | exact HB.out | apply below_alloc | apply pw_below_drewN | apply below_drew1 | refine below_set ?_ GE273.out | refine below_set ?_ GE277.out | refine below_set ?_ GE278.out) | exact HB.out)⟩⟩
                        · rw [if_neg c69] at H
                          have c69b0 : (((rd_T39 l1 x7_2).f0) == 2) = false := beq_eq_false_iff_ne.mpr c69
                          have c69b1 : (((rd_T39 l1 x7_2).f0) != 2) = true := bne_iff_ne.mpr c69
                          by_cases c78 : ((rd_T39 l1 x7_2).f0) = 3
                          · rw [if_pos c78] at H
                            have c78b0 : (((rd_T39 l1 x7_2).f0) == 3) = true := beq_iff_eq.mpr c78
                            have c78b1 : (((rd_T39 l1 x7_2).f0) != 3) = false := bne_eq_false_iff_eq.mpr c78
                            clear c78
                            replace H := Option.bind_eq_some_iff.mp H
                            obtain ⟨⟨t293, t294, t295, t296⟩, A790, H⟩ := H
                            replace H : (emulatorlaw42_PipeOrder.j2 k2 l1 x5_2 x6_2 x7_2 t296 x274000_2 x274001_2 x274002_2 t293 t294 t295) = some r := H
                            have A79 := Aside0.mk A790
                            clear A790
                            have H' := Aside0.mk H
                            clear H
                            have hnb80 := NB273_277.out
                            have hnc80 := NB277_273.out
                            have hnb81 := NB273_278.out
                            have hnc81 := NB278_273.out
                            have hcz82_0 : w24.cell? ⟨gb273, 0, none⟩ = some (.string x274000_2) := (blk_cell BK273.out 0).trans rfl
                            have hcz82_1 : w24.cell? ⟨gb273, 1, none⟩ = some (.int .i64 x274001_2) := (blk_cell BK273.out 1).trans rfl
                            have hcz82_2 : w24.cell? ⟨gb273, 2, none⟩ = some (.int .i64 x274002_2) := (blk_cell BK273.out 2).trans rfl
                            have hfz82_0 := blk_frozen BK273.out 0
                            have hfz82_1 := blk_frozen BK273.out 1
                            have hfz82_2 := blk_frozen BK273.out 2
                            have hnb83 := NB277_278.out
                            have hnc83 := NB278_277.out
                            have hcz84_0 : w24.cell? ⟨gb277, 0, none⟩ = some (.int .i64 ((rd_T39 l1 x7_2).f0)) := (blk_cell BK277.out 0).trans rfl
                            have hcz84_1 : w24.cell? ⟨gb277, 1, none⟩ = some (.int .i64 ((rd_T39 l1 x7_2).f1)) := (blk_cell BK277.out 1).trans rfl
                            have hcz84_2 : w24.cell? ⟨gb277, 2, none⟩ = some (.string ((rd_T39 l1 x7_2).f2)) := (blk_cell BK277.out 2).trans rfl
                            have hcz84_3 : w24.cell? ⟨gb277, 3, none⟩ = some (.bool ((rd_T39 l1 x7_2).f3)) := (blk_cell BK277.out 3).trans rfl
                            have hfz84_0 := blk_frozen BK277.out 0
                            have hfz84_1 := blk_frozen BK277.out 1
                            have hfz84_2 := blk_frozen BK277.out 2
                            have hfz84_3 := blk_frozen BK277.out 3
                            go_wp2_with (first | ((with_reducible refine gate_callee (f := 20) rfl ?_); refine goesL_ (some 93) rfl rfl Try.func20 (by kernel_rfl) rfl #[.agg #[.string x274000_2, .int .i64 x274001_2, .int .i64 x274002_2], .bool ((rd_T39 l1 x7_2).f3)] rfl (by (try simp only [List.map_toArray, List.map_cons, List.map_nil]); first | done | rfl | (simp only [List.length_drop, List.length_take]; rfl)) ?_; (with_reducible refine (pipe_Dup.calls k2 x274000_2 x274001_2 x274002_2 ((rd_T39 l1 x7_2).f3) t293 t294 t295 t296 _ A79.out).mono ?_); rintro e w85 ⟨rfl, hb⟩; refine ⟨_, rfl, ?_⟩; have n0_ := Aside0.mk (blk_below (g := gb273) (o := .cells #[.string x274000_2, .int .i64 x274001_2, .int .i64 x274002_2] 23 (0, 0)) (by (with_reducible repeat (first | refine blk_drewN ?_ _ | refine blk_drew ?_ | refine blk_alloc ?_ _)); refine blk_far ?_ NB273_278.out _; (with_reducible repeat (first | refine blk_drewN ?_ _ | refine blk_drew ?_ | refine blk_alloc ?_ _)); refine blk_far ?_ NB273_278.out _; (with_reducible repeat (first | refine blk_drewN ?_ _ | refine blk_drew ?_ | refine blk_alloc ?_ _)); refine blk_far ?_ NB273_278.out _; (with_reducible repeat (first | refine blk_drewN ?_ _ | refine blk_drew ?_ | refine blk_alloc ?_ _)); exact BK273.out) hb); have n1_ := Aside0.mk (blk_below (g := gb277) (o := .cells #[.int .i64 ((rd_T39 l1 x7_2).f0), .int .i64 ((rd_T39 l1 x7_2).f1), .string ((rd_T39 l1 x7_2).f2), .bool ((rd_T39 l1 x7_2).f3)] 39 (0, 0)) (by (with_reducible repeat (first | refine blk_drewN ?_ _ | refine blk_drew ?_ | refine blk_alloc ?_ _)); refine blk_far ?_ NB277_278.out _; (with_reducible repeat (first | refine blk_drewN ?_ _ | refine blk_drew ?_ | refine blk_alloc ?_ _)); refine blk_far ?_ NB277_278.out _; (with_reducible repeat (first | refine blk_drewN ?_ _ | refine blk_drew ?_ | refine blk_alloc ?_ _)); refine blk_far ?_ NB277_278.out _; (with_reducible repeat (first | refine blk_drewN ?_ _ | refine blk_drew ?_ | refine blk_alloc ?_ _)); exact BK277.out) hb); have n2_ := Aside0.mk (blk_below (g := gb278) (o := .cells #[.string x274000_2, .int .i64 x274001_2, .int .i64 x274002_2] 23 (0, 0)) (by (with_reducible repeat (first | refine blk_drewN ?_ _ | refine blk_drew ?_ | refine blk_alloc ?_ _)); refine blk_put (cs := #[.string x274000_2, .int .i64 x274001_2, .int .i64 0]) ?_ 2 _ rfl; (with_reducible repeat (first | refine blk_drewN ?_ _ | refine blk_drew ?_ | refine blk_alloc ?_ _)); refine blk_put (cs := #[.string x274000_2, .int .i64 0, .int .i64 0]) ?_ 1 _ rfl; (with_reducible repeat (first | refine blk_drewN ?_ _ | refine blk_drew ?_ | refine blk_alloc ?_ _)); refine blk_put (cs := #[.string (⟨#[]⟩ : ByteArray), .int .i64 0, .int .i64 0]) ?_ 0 _ rfl; (with_reducible repeat (first | refine blk_drewN ?_ _ | refine blk_drew ?_ | refine blk_alloc ?_ _)); exact BK278.out) hb); have n3_ := Aside0.mk (below_step (by repeat (first | (with_reducible first | exact HB.out | apply below_alloc | apply pw_below_drewN | apply below_drew1 | refine below_set ?_ GE273.out | refine below_set ?_ GE277.out | refine below_set ?_ GE278.out) | exact HB.out)) hb); clear BK273; clear BK277; clear BK278; clear HB; have BK273 := n0_; have BK277 := n1_; have BK278 := n2_; have HB := n3_; clear n0_ n1_ n2_ n3_; (try clear hb); (try clear hb2); (try clear hk); (try clear hi); have hcz86_0 : w85.cell? ⟨gb278, 0, none⟩ = some (.string x274000_2) := (blk_cell BK278.out 0).trans rfl; have hcz86_1 : w85.cell? ⟨gb278, 1, none⟩ = some (.int .i64 x274001_2) := (blk_cell BK278.out 1).trans rfl; have hcz86_2 : w85.cell? ⟨gb278, 2, none⟩ = some (.int .i64 x274002_2) := (blk_cell BK278.out 2).trans rfl; have hfz86_0 := blk_frozen BK278.out 0; have hfz86_1 := blk_frozen BK278.out 1; have hfz86_2 := blk_frozen BK278.out 2))
                            go_meet
                            case rel => exact ⟨_, (x5_2), (x6_2), (t296), (t293), (t294), (t295), (by first | rfl | (simp; done) | (simp [*]; done)), (by first | rfl | (simp; done) | (simp [*]; done)), (by first | rfl | (simp; done) | (simp [*]; done)), H', ⟨by have := HJ2.out; have := HK2.out; first | omega | exact Nat.le_refl _⟩, ⟨by (with_reducible repeat (first | refine blk_drewN ?_ _ | refine blk_drew ?_ | refine blk_alloc ?_ _)); refine blk_far ?_ NB273_278.out _; (with_reducible repeat (first | refine blk_drewN ?_ _ | refine blk_drew ?_ | refine blk_alloc ?_ _)); refine blk_far ?_ NB273_278.out _; (with_reducible repeat (first | refine blk_drewN ?_ _ | refine blk_drew ?_ | refine blk_alloc ?_ _)); refine blk_far ?_ NB273_278.out _; (with_reducible repeat (first | refine blk_drewN ?_ _ | refine blk_drew ?_ | refine blk_alloc ?_ _)); exact BK273.out⟩, ⟨by (with_reducible repeat (first | refine blk_drewN ?_ _ | refine blk_drew ?_ | refine blk_alloc ?_ _)); refine blk_far ?_ NB277_278.out _; (with_reducible repeat (first | refine blk_drewN ?_ _ | refine blk_drew ?_ | refine blk_alloc ?_ _)); refine blk_far ?_ NB277_278.out _; (with_reducible repeat (first | refine blk_drewN ?_ _ | refine blk_drew ?_ | refine blk_alloc ?_ _)); refine blk_far ?_ NB277_278.out _; (with_reducible repeat (first | refine blk_drewN ?_ _ | refine blk_drew ?_ | refine blk_alloc ?_ _)); exact BK277.out⟩, ⟨by (with_reducible repeat (first | refine blk_drewN ?_ _ | refine blk_drew ?_ | refine blk_alloc ?_ _)); refine blk_put (cs := #[.string t293, .int .i64 t294, .int .i64 x274002_2]) ?_ 2 _ rfl; (with_reducible repeat (first | refine blk_drewN ?_ _ | refine blk_drew ?_ | refine blk_alloc ?_ _)); refine blk_put (cs := #[.string t293, .int .i64 x274001_2, .int .i64 x274002_2]) ?_ 1 _ rfl; (with_reducible repeat (first | refine blk_drewN ?_ _ | refine blk_drew ?_ | refine blk_alloc ?_ _)); refine blk_put (cs := #[.string x274000_2, .int .i64 x274001_2, .int .i64 x274002_2]) ?_ 0 _ rfl; (with_reducible repeat (first | refine blk_drewN ?_ _ | refine blk_drew ?_ | refine blk_alloc ?_ _)); exact BK278.out⟩, ⟨by repeat (first | (with_reducible first | exact HB.out | apply below_alloc | apply pw_below_drewN | apply below_drew1 | refine below_set ?_ GE273.out | refine below_set ?_ GE277.out | refine below_set ?_ GE278.out) | exact HB.out)⟩⟩
                          · rw [if_neg c78] at H
                            have c78b0 : (((rd_T39 l1 x7_2).f0) == 3) = false := beq_eq_false_iff_ne.mpr c78
                            have c78b1 : (((rd_T39 l1 x7_2).f0) != 3) = true := bne_iff_ne.mpr c78
                            have H' := Aside0.mk H
                            clear H
                            go_wp2
                            go_meet
                            case rel => exact ⟨_, (x5_2), (x6_2), (0), (x274000_2), (x274001_2), (x274002_2), (by first | rfl | (simp; done) | (simp [*]; done)), (by first | rfl | (simp; done) | (simp [*]; done)), (by first | rfl | (simp; done) | (simp [*]; done)), H', ⟨by have := HJ2.out; have := HK2.out; first | omega | exact Nat.le_refl _⟩, ⟨by (with_reducible repeat (first | refine blk_drewN ?_ _ | refine blk_drew ?_ | refine blk_alloc ?_ _)); refine blk_far ?_ NB273_278.out _; (with_reducible repeat (first | refine blk_drewN ?_ _ | refine blk_drew ?_ | refine blk_alloc ?_ _)); refine blk_far ?_ NB273_278.out _; (with_reducible repeat (first | refine blk_drewN ?_ _ | refine blk_drew ?_ | refine blk_alloc ?_ _)); refine blk_far ?_ NB273_278.out _; (with_reducible repeat (first | refine blk_drewN ?_ _ | refine blk_drew ?_ | refine blk_alloc ?_ _)); exact BK273.out⟩, ⟨by (with_reducible repeat (first | refine blk_drewN ?_ _ | refine blk_drew ?_ | refine blk_alloc ?_ _)); refine blk_far ?_ NB277_278.out _; (with_reducible repeat (first | refine blk_drewN ?_ _ | refine blk_drew ?_ | refine blk_alloc ?_ _)); refine blk_far ?_ NB277_278.out _; (with_reducible repeat (first | refine blk_drewN ?_ _ | refine blk_drew ?_ | refine blk_alloc ?_ _)); refine blk_far ?_ NB277_278.out _; (with_reducible repeat (first | refine blk_drewN ?_ _ | refine blk_drew ?_ | refine blk_alloc ?_ _)); exact BK277.out⟩, ⟨by (with_reducible repeat (first | refine blk_drewN ?_ _ | refine blk_drew ?_ | refine blk_alloc ?_ _)); refine blk_put (cs := #[.string x274000_2, .int .i64 x274001_2, .int .i64 0]) ?_ 2 _ rfl; (with_reducible repeat (first | refine blk_drewN ?_ _ | refine blk_drew ?_ | refine blk_alloc ?_ _)); refine blk_put (cs := #[.string x274000_2, .int .i64 0, .int .i64 0]) ?_ 1 _ rfl; (with_reducible repeat (first | refine blk_drewN ?_ _ | refine blk_drew ?_ | refine blk_alloc ?_ _)); refine blk_put (cs := #[.string (⟨#[]⟩ : ByteArray), .int .i64 0, .int .i64 0]) ?_ 0 _ rfl; (with_reducible repeat (first | refine blk_drewN ?_ _ | refine blk_drew ?_ | refine blk_alloc ?_ _)); exact BK278.out⟩, ⟨by repeat (first | (with_reducible first | exact HB.out | apply below_alloc | apply pw_below_drewN | apply below_drew1 | refine below_set ?_ GE273.out | refine below_set ?_ GE277.out | refine below_set ?_ GE278.out) | exact HB.out)⟩⟩
                  case rest =>
                    clear HC19
                    try clear c1
                    try clear c2
                    try clear p2
                    try clear q2
                    try clear hx2
                    try clear c3
                    try clear c4
                    try clear c5
                    try clear c6
                    try clear c7
                    try clear c8
                    try clear c10
                    try clear c11
                    try clear c13
                    try clear c13b0
                    try clear c14
                    try clear c14b0
                    try clear c15
                    try clear c15b0
                    try clear c15b1
                    try clear c16
                    try clear c17
                    try clear c18
                    try clear c20
                    try clear c21
                    try clear c25
                    try clear c26
                    try clear p27
                    try clear q27
                    try clear hx27
                    try clear c29
                    try clear c29b0
                    try clear c29b1
                    try clear c31
                    try clear c31b0
                    try clear c31b1
                    try clear c31b2
                    try clear c32
                    try clear c33
                    try clear c35
                    try clear c39
                    try clear c39b0
                    try clear c39b1
                    try clear c41
                    try clear c41b0
                    try clear c42
                    try clear c43
                    try clear c45
                    try clear c49
                    try clear c49b0
                    try clear c50
                    try clear c51
                    try clear c53
                    try clear c58
                    try clear c58b0
                    try clear c58b1
                    try clear c59
                    try clear c59b0
                    try clear c59b1
                    try clear c60
                    try clear c60b0
                    try clear c60b1
                    try clear c60b2
                    try clear c61
                    try clear c62
                    try clear c64
                    try clear c69
                    try clear c69b0
                    try clear c69b1
                    try clear c71
                    try clear c72
                    try clear c74
                    try clear c78
                    try clear c78b0
                    try clear c78b1
                    try clear c80
                    try clear c81
                    try clear c83
                    try clear hcz12_0
                    try clear hcz12_1
                    try clear hcz12_2
                    try clear hcz18_0
                    try clear hcz18_1
                    try clear hcz18_2
                    try clear hcz18_3
                    try clear hcz22_0
                    try clear hcz22_1
                    try clear hcz22_2
                    try clear hcz22_3
                    try clear hcz23_0
                    try clear hcz23_1
                    try clear hcz23_2
                    try clear hcz27_0
                    try clear hcz27_1
                    try clear hcz27_2
                    try clear hcz28_0
                    try clear hcz28_1
                    try clear hcz28_2
                    try clear hcz28_3
                    try clear hcz34_0
                    try clear hcz34_1
                    try clear hcz34_2
                    try clear hcz36_0
                    try clear hcz36_1
                    try clear hcz36_2
                    try clear hcz36_3
                    try clear hcz38_0
                    try clear hcz38_1
                    try clear hcz38_2
                    try clear hcz44_0
                    try clear hcz44_1
                    try clear hcz44_2
                    try clear hcz46_0
                    try clear hcz46_1
                    try clear hcz46_2
                    try clear hcz46_3
                    try clear hcz48_0
                    try clear hcz48_1
                    try clear hcz48_2
                    try clear hcz52_0
                    try clear hcz52_1
                    try clear hcz52_2
                    try clear hcz54_0
                    try clear hcz54_1
                    try clear hcz54_2
                    try clear hcz54_3
                    try clear hcz56_0
                    try clear hcz56_1
                    try clear hcz56_2
                    try clear hcz57_0
                    try clear hcz57_1
                    try clear hcz57_2
                    try clear hcz57_3
                    try clear hcz63_0
                    try clear hcz63_1
                    try clear hcz63_2
                    try clear hcz65_0
                    try clear hcz65_1
                    try clear hcz65_2
                    try clear hcz65_3
                    try clear hcz67_0
                    try clear hcz67_1
                    try clear hcz67_2
                    try clear hcz68_0
                    try clear hcz68_1
                    try clear hcz68_2
                    try clear hcz68_3
                    try clear hcz73_0
                    try clear hcz73_1
                    try clear hcz73_2
                    try clear hcz75_0
                    try clear hcz75_1
                    try clear hcz75_2
                    try clear hcz75_3
                    try clear hcz77_0
                    try clear hcz77_1
                    try clear hcz77_2
                    try clear hcz7_0
                    try clear hcz7_1
                    try clear hcz7_2
                    try clear hcz82_0
                    try clear hcz82_1
                    try clear hcz82_2
                    try clear hcz84_0
                    try clear hcz84_1
                    try clear hcz84_2
                    try clear hcz84_3
                    try clear hcz86_0
                    try clear hcz86_1
                    try clear hcz86_2
                    try clear hcz9_0
                    try clear hcz9_1
                    try clear hcz9_2
                    try clear hfz12_0
                    try clear hfz12_1
                    try clear hfz12_2
                    try clear hfz18_0
                    try clear hfz18_1
                    try clear hfz18_2
                    try clear hfz18_3
                    try clear hfz22_0
                    try clear hfz22_1
                    try clear hfz22_2
                    try clear hfz22_3
                    try clear hfz23_0
                    try clear hfz23_1
                    try clear hfz23_2
                    try clear hfz27_0
                    try clear hfz27_1
                    try clear hfz27_2
                    try clear hfz28_0
                    try clear hfz28_1
                    try clear hfz28_2
                    try clear hfz28_3
                    try clear hfz34_0
                    try clear hfz34_1
                    try clear hfz34_2
                    try clear hfz36_0
                    try clear hfz36_1
                    try clear hfz36_2
                    try clear hfz36_3
                    try clear hfz38_0
                    try clear hfz38_1
                    try clear hfz38_2
                    try clear hfz44_0
                    try clear hfz44_1
                    try clear hfz44_2
                    try clear hfz46_0
                    try clear hfz46_1
                    try clear hfz46_2
                    try clear hfz46_3
                    try clear hfz48_0
                    try clear hfz48_1
                    try clear hfz48_2
                    try clear hfz52_0
                    try clear hfz52_1
                    try clear hfz52_2
                    try clear hfz54_0
                    try clear hfz54_1
                    try clear hfz54_2
                    try clear hfz54_3
                    try clear hfz56_0
                    try clear hfz56_1
                    try clear hfz56_2
                    try clear hfz57_0
                    try clear hfz57_1
                    try clear hfz57_2
                    try clear hfz57_3
                    try clear hfz63_0
                    try clear hfz63_1
                    try clear hfz63_2
                    try clear hfz65_0
                    try clear hfz65_1
                    try clear hfz65_2
                    try clear hfz65_3
                    try clear hfz67_0
                    try clear hfz67_1
                    try clear hfz67_2
                    try clear hfz68_0
                    try clear hfz68_1
                    try clear hfz68_2
                    try clear hfz68_3
                    try clear hfz73_0
                    try clear hfz73_1
                    try clear hfz73_2
                    try clear hfz75_0
                    try clear hfz75_1
                    try clear hfz75_2
                    try clear hfz75_3
                    try clear hfz77_0
                    try clear hfz77_1
                    try clear hfz77_2
                    try clear hfz7_0
                    try clear hfz7_1
                    try clear hfz7_2
                    try clear hfz82_0
                    try clear hfz82_1
                    try clear hfz82_2
                    try clear hfz84_0
                    try clear hfz84_1
                    try clear hfz84_2
                    try clear hfz84_3
                    try clear hfz86_0
                    try clear hfz86_1
                    try clear hfz86_2
                    try clear hfz9_0
                    try clear hfz9_1
                    try clear hfz9_2
                    try clear hx276_0
                    try clear hx276_1
                    try clear hx276_2
                    try clear hx276_3
                    try clear p2
                    try clear p276
                    try clear q276
                    obtain ⟨kq, x5_18, x6_18, x10_18, x279000_18, x279001_18, x279002_18, rfl, rfl, rfl, HA, HJ18, BK273, BK277, BK278, HB⟩ := hcut
                    cases kq with
                    | zero => exact absurd HA.out (by simp [emulatorlaw42_PipeOrder.j2])
                    | succ kj18 =>
                      have H := HA.out
                      clear HA
                      simp only [emulatorlaw42_PipeOrder.j2] at H
                      have HC87 := Aside0.mk H
                      clear H
                      go_upto_if 97 with (fail)
                      go_cut [] (fun wc => ∃ (kq : Nat) (x274000_86 : ByteArray) (x274001_86 : Int) (x274002_86 : Int), Aside0 (emulatorlaw42_PipeOrder.j3 kq l1 x5_18 x6_18 x7_2 x274000_86 x274001_86 x274002_86 = some r) ∧ Aside0 (kq ≤ kj18) ∧ Aside0 (wc.heap[gb273]? = some (.cells #[.string x274000_86, .int .i64 x274001_86, .int .i64 x274002_86] 23 (0, 0))) ∧ Aside0 (wc.heap[gb277]? = some (.cells #[.int .i64 ((rd_T39 l1 x7_2).f0), .int .i64 ((rd_T39 l1 x7_2).f1), .string ((rd_T39 l1 x7_2).f2), .bool ((rd_T39 l1 x7_2).f3)] 39 (0, 0))) ∧ Aside0 (wc.heap[gb278]? = some (.cells #[.string x279000_18, .int .i64 x279001_18, .int .i64 x279002_18] 23 (0, 0))) ∧ Aside0 (Below w.heap.size w wc))
                      case first =>
                        have H := HC87.out
                        clear HC87
                        by_cases c88 : x10_18 = 0
                        · rw [if_pos c88] at H
                          have c88b0 : (x10_18 == 0) = true := beq_iff_eq.mpr c88
                          have c88b1 : (x10_18 != 0) = false := bne_eq_false_iff_eq.mpr c88
                          clear c88
                          (first | rw [c88b0] | (simp only [i64_w, i32_w]; rw [c88b0]) | skip)
                          have H' := Aside0.mk H
                          clear H
                          have hnb89 := NB278_273.out
                          have hnc89 := NB273_278.out
                          have hnb90 := NB278_277.out
                          have hnc90 := NB277_278.out
                          have hcz91_0 : wc.cell? ⟨gb278, 0, none⟩ = some (.string x279000_18) := (blk_cell BK278.out 0).trans rfl
                          have hcz91_1 : wc.cell? ⟨gb278, 1, none⟩ = some (.int .i64 x279001_18) := (blk_cell BK278.out 1).trans rfl
                          have hcz91_2 : wc.cell? ⟨gb278, 2, none⟩ = some (.int .i64 x279002_18) := (blk_cell BK278.out 2).trans rfl
                          have hfz91_0 := blk_frozen BK278.out 0
                          have hfz91_1 := blk_frozen BK278.out 1
                          have hfz91_2 := blk_frozen BK278.out 2
                          have hnb92 := NB273_277.out
                          have hnc92 := NB277_273.out
                          have hcz93_0 : wc.cell? ⟨gb273, 0, none⟩ = some (.string x274000_2) := (blk_cell BK273.out 0).trans rfl
                          have hcz93_1 : wc.cell? ⟨gb273, 1, none⟩ = some (.int .i64 x274001_2) := (blk_cell BK273.out 1).trans rfl
                          have hcz93_2 : wc.cell? ⟨gb273, 2, none⟩ = some (.int .i64 x274002_2) := (blk_cell BK273.out 2).trans rfl
                          have hfz93_0 := blk_frozen BK273.out 0
                          have hfz93_1 := blk_frozen BK273.out 1
                          have hfz93_2 := blk_frozen BK273.out 2
                          go_wp2
                          go_meet
                          case rel => exact ⟨_, (x279000_18), (x279001_18), (x279002_18), H', ⟨by have := HJ2.out; have := HK2.out; have := HJ18.out; first | omega | exact Nat.le_refl _⟩, ⟨by (with_reducible repeat (first | refine blk_drewN ?_ _ | refine blk_drew ?_ | refine blk_alloc ?_ _)); refine blk_put (cs := #[.string x279000_18, .int .i64 x279001_18, .int .i64 x274002_2]) ?_ 2 _ rfl; (with_reducible repeat (first | refine blk_drewN ?_ _ | refine blk_drew ?_ | refine blk_alloc ?_ _)); refine blk_put (cs := #[.string x279000_18, .int .i64 x274001_2, .int .i64 x274002_2]) ?_ 1 _ rfl; (with_reducible repeat (first | refine blk_drewN ?_ _ | refine blk_drew ?_ | refine blk_alloc ?_ _)); refine blk_put (cs := #[.string x274000_2, .int .i64 x274001_2, .int .i64 x274002_2]) ?_ 0 _ rfl; (with_reducible repeat (first | refine blk_drewN ?_ _ | refine blk_drew ?_ | refine blk_alloc ?_ _)); exact BK273.out⟩, ⟨by (with_reducible repeat (first | refine blk_drewN ?_ _ | refine blk_drew ?_ | refine blk_alloc ?_ _)); refine blk_far ?_ NB277_273.out _; (with_reducible repeat (first | refine blk_drewN ?_ _ | refine blk_drew ?_ | refine blk_alloc ?_ _)); refine blk_far ?_ NB277_273.out _; (with_reducible repeat (first | refine blk_drewN ?_ _ | refine blk_drew ?_ | refine blk_alloc ?_ _)); refine blk_far ?_ NB277_273.out _; (with_reducible repeat (first | refine blk_drewN ?_ _ | refine blk_drew ?_ | refine blk_alloc ?_ _)); exact BK277.out⟩, ⟨by (with_reducible repeat (first | refine blk_drewN ?_ _ | refine blk_drew ?_ | refine blk_alloc ?_ _)); refine blk_far ?_ NB278_273.out _; (with_reducible repeat (first | refine blk_drewN ?_ _ | refine blk_drew ?_ | refine blk_alloc ?_ _)); refine blk_far ?_ NB278_273.out _; (with_reducible repeat (first | refine blk_drewN ?_ _ | refine blk_drew ?_ | refine blk_alloc ?_ _)); refine blk_far ?_ NB278_273.out _; (with_reducible repeat (first | refine blk_drewN ?_ _ | refine blk_drew ?_ | refine blk_alloc ?_ _)); exact BK278.out⟩, ⟨by repeat (first | (with_reducible first | exact HB.out | apply below_alloc | apply pw_below_drewN | apply below_drew1 | refine below_set ?_ GE273.out | refine below_set ?_ GE277.out | refine below_set ?_ GE278.out) | exact HB.out)⟩⟩
                        · rw [if_neg c88] at H
                          have c88b0 : (x10_18 == 0) = false := beq_eq_false_iff_ne.mpr c88
                          have c88b1 : (x10_18 != 0) = true := bne_iff_ne.mpr c88
                          (first | rw [c88b0] | (simp only [i64_w, i32_w]; rw [c88b0]) | skip)
                          have H' := Aside0.mk H
                          clear H
                          go_wp2
                          go_meet
                          case rel => exact ⟨_, (x274000_2), (x274001_2), (x274002_2), H', ⟨by have := HJ2.out; have := HK2.out; have := HJ18.out; first | omega | exact Nat.le_refl _⟩, ⟨by (with_reducible repeat (first | refine blk_drewN ?_ _ | refine blk_drew ?_ | refine blk_alloc ?_ _)); exact BK273.out⟩, ⟨by (with_reducible repeat (first | refine blk_drewN ?_ _ | refine blk_drew ?_ | refine blk_alloc ?_ _)); exact BK277.out⟩, ⟨by (with_reducible repeat (first | refine blk_drewN ?_ _ | refine blk_drew ?_ | refine blk_alloc ?_ _)); exact BK278.out⟩, ⟨by repeat (first | (with_reducible first | exact HB.out | apply below_alloc | apply pw_below_drewN | apply below_drew1 | refine below_set ?_ GE273.out | refine below_set ?_ GE277.out | refine below_set ?_ GE278.out) | exact HB.out)⟩⟩
                      case rest =>
                        clear HC87
                        try clear c1
                        try clear c2
                        try clear p2
                        try clear q2
                        try clear hx2
                        try clear c3
                        try clear c4
                        try clear c5
                        try clear c6
                        try clear c7
                        try clear c8
                        try clear c9
                        try clear c10
                        try clear c11
                        try clear c13
                        try clear c13b0
                        try clear c14
                        try clear c14b0
                        try clear c15
                        try clear c15b0
                        try clear c15b1
                        try clear c16
                        try clear c17
                        try clear c18
                        try clear c20
                        try clear c21
                        try clear c25
                        try clear c26
                        try clear p27
                        try clear q27
                        try clear hx27
                        try clear c29
                        try clear c29b0
                        try clear c29b1
                        try clear c31
                        try clear c31b0
                        try clear c31b1
                        try clear c31b2
                        try clear c32
                        try clear c33
                        try clear c35
                        try clear c39
                        try clear c39b0
                        try clear c39b1
                        try clear c41
                        try clear c41b0
                        try clear c42
                        try clear c43
                        try clear c45
                        try clear c49
                        try clear c49b0
                        try clear c50
                        try clear c51
                        try clear c53
                        try clear c58
                        try clear c58b0
                        try clear c58b1
                        try clear c59
                        try clear c59b0
                        try clear c59b1
                        try clear c60
                        try clear c60b0
                        try clear c60b1
                        try clear c60b2
                        try clear c61
                        try clear c62
                        try clear c64
                        try clear c69
                        try clear c69b0
                        try clear c69b1
                        try clear c71
                        try clear c72
                        try clear c74
                        try clear c78
                        try clear c78b0
                        try clear c78b1
                        try clear c80
                        try clear c81
                        try clear c83
                        try clear c88
                        try clear c88b0
                        try clear c88b1
                        try clear c89
                        try clear c90
                        try clear c92
                        try clear hcz12_0
                        try clear hcz12_1
                        try clear hcz12_2
                        try clear hcz18_0
                        try clear hcz18_1
                        try clear hcz18_2
                        try clear hcz18_3
                        try clear hcz22_0
                        try clear hcz22_1
                        try clear hcz22_2
                        try clear hcz22_3
                        try clear hcz23_0
                        try clear hcz23_1
                        try clear hcz23_2
                        try clear hcz27_0
                        try clear hcz27_1
                        try clear hcz27_2
                        try clear hcz28_0
                        try clear hcz28_1
                        try clear hcz28_2
                        try clear hcz28_3
                        try clear hcz34_0
                        try clear hcz34_1
                        try clear hcz34_2
                        try clear hcz36_0
                        try clear hcz36_1
                        try clear hcz36_2
                        try clear hcz36_3
                        try clear hcz38_0
                        try clear hcz38_1
                        try clear hcz38_2
                        try clear hcz44_0
                        try clear hcz44_1
                        try clear hcz44_2
                        try clear hcz46_0
                        try clear hcz46_1
                        try clear hcz46_2
                        try clear hcz46_3
                        try clear hcz48_0
                        try clear hcz48_1
                        try clear hcz48_2
                        try clear hcz52_0
                        try clear hcz52_1
                        try clear hcz52_2
                        try clear hcz54_0
                        try clear hcz54_1
                        try clear hcz54_2
                        try clear hcz54_3
                        try clear hcz56_0
                        try clear hcz56_1
                        try clear hcz56_2
                        try clear hcz57_0
                        try clear hcz57_1
                        try clear hcz57_2
                        try clear hcz57_3
                        try clear hcz63_0
                        try clear hcz63_1
                        try clear hcz63_2
                        try clear hcz65_0
                        try clear hcz65_1
                        try clear hcz65_2
                        try clear hcz65_3
                        try clear hcz67_0
                        try clear hcz67_1
                        try clear hcz67_2
                        try clear hcz68_0
                        try clear hcz68_1
                        try clear hcz68_2
                        try clear hcz68_3
                        try clear hcz73_0
                        try clear hcz73_1
                        try clear hcz73_2
                        try clear hcz75_0
                        try clear hcz75_1
                        try clear hcz75_2
                        try clear hcz75_3
                        try clear hcz77_0
                        try clear hcz77_1
                        try clear hcz77_2
                        try clear hcz7_0
                        try clear hcz7_1
                        try clear hcz7_2
                        try clear hcz82_0
                        try clear hcz82_1
                        try clear hcz82_2
                        try clear hcz84_0
                        try clear hcz84_1
                        try clear hcz84_2
                        try clear hcz84_3
                        try clear hcz86_0
                        try clear hcz86_1
                        try clear hcz86_2
                        try clear hcz91_0
                        try clear hcz91_1
                        try clear hcz91_2
                        try clear hcz93_0
                        try clear hcz93_1
                        try clear hcz93_2
                        try clear hcz9_0
                        try clear hcz9_1
                        try clear hcz9_2
                        try clear hfz12_0
                        try clear hfz12_1
                        try clear hfz12_2
                        try clear hfz18_0
                        try clear hfz18_1
                        try clear hfz18_2
                        try clear hfz18_3
                        try clear hfz22_0
                        try clear hfz22_1
                        try clear hfz22_2
                        try clear hfz22_3
                        try clear hfz23_0
                        try clear hfz23_1
                        try clear hfz23_2
                        try clear hfz27_0
                        try clear hfz27_1
                        try clear hfz27_2
                        try clear hfz28_0
                        try clear hfz28_1
                        try clear hfz28_2
                        try clear hfz28_3
                        try clear hfz34_0
                        try clear hfz34_1
                        try clear hfz34_2
                        try clear hfz36_0
                        try clear hfz36_1
                        try clear hfz36_2
                        try clear hfz36_3
                        try clear hfz38_0
                        try clear hfz38_1
                        try clear hfz38_2
                        try clear hfz44_0
                        try clear hfz44_1
                        try clear hfz44_2
                        try clear hfz46_0
                        try clear hfz46_1
                        try clear hfz46_2
                        try clear hfz46_3
                        try clear hfz48_0
                        try clear hfz48_1
                        try clear hfz48_2
                        try clear hfz52_0
                        try clear hfz52_1
                        try clear hfz52_2
                        try clear hfz54_0
                        try clear hfz54_1
                        try clear hfz54_2
                        try clear hfz54_3
                        try clear hfz56_0
                        try clear hfz56_1
                        try clear hfz56_2
                        try clear hfz57_0
                        try clear hfz57_1
                        try clear hfz57_2
                        try clear hfz57_3
                        try clear hfz63_0
                        try clear hfz63_1
                        try clear hfz63_2
                        try clear hfz65_0
                        try clear hfz65_1
                        try clear hfz65_2
                        try clear hfz65_3
                        try clear hfz67_0
                        try clear hfz67_1
                        try clear hfz67_2
                        try clear hfz68_0
                        try clear hfz68_1
                        try clear hfz68_2
                        try clear hfz68_3
                        try clear hfz73_0
                        try clear hfz73_1
                        try clear hfz73_2
                        try clear hfz75_0
                        try clear hfz75_1
                        try clear hfz75_2
                        try clear hfz75_3
                        try clear hfz77_0
                        try clear hfz77_1
                        try clear hfz77_2
                        try clear hfz7_0
                        try clear hfz7_1
                        try clear hfz7_2
                        try clear hfz82_0
                        try clear hfz82_1
                        try clear hfz82_2
                        try clear hfz84_0
                        try clear hfz84_1
                        try clear hfz84_2
                        try clear hfz84_3
                        try clear hfz86_0
                        try clear hfz86_1
                        try clear hfz86_2
                        try clear hfz91_0
                        try clear hfz91_1
                        try clear hfz91_2
                        try clear hfz93_0
                        try clear hfz93_1
                        try clear hfz93_2
                        try clear hfz9_0
                        try clear hfz9_1
                        try clear hfz9_2
                        try clear hx276_0
                        try clear hx276_1
                        try clear hx276_2
                        try clear hx276_3
                        try clear p2
                        try clear p27
                        try clear p276
                        try clear q2
                        try clear q27
                        try clear q276
                        obtain ⟨kq, x274000_86, x274001_86, x274002_86, HA, HJ86, BK273, BK277, BK278, HB⟩ := hcut
                        cases kq with
                        | zero => exact absurd HA.out (by simp [emulatorlaw42_PipeOrder.j3])
                        | succ kj86 =>
                          have H := HA.out
                          clear HA
                          simp only [emulatorlaw42_PipeOrder.j3] at H
                          replace H := Option.bind_eq_some_iff.mp H
                          obtain ⟨t297, A940, H⟩ := H
                          replace H : (if t297 = true then (if x274001_86 = 0 then (if x274000_86.toList = ([] : List UInt8) then ((emulatorlaw42_alive.f kj86).bind fun t298 => (some t298)) else (some false)) else (if x6_18.size + x274000_86.size ≤ 9223372036854775807 then (if (x6_18 ++ x274000_86).toList = x5_18.toList then (emulatorlaw42_PipeOrder.l0 kj86 l1 x5_18 x6_18 (wrap64 (x7_2 + 1)) x274000_86 x274001_86 x274002_86) else (some false)) else (none))) else (some false)) = some r := H
                          have A94 := Aside0.mk A940
                          clear A940
                          by_cases c95 : t297 = true
                          · subst c95
                            have H1 : (if x274001_86 = 0 then (if x274000_86.toList = ([] : List UInt8) then ((emulatorlaw42_alive.f kj86).bind fun t298 => (some t298)) else (some false)) else (if x6_18.size + x274000_86.size ≤ 9223372036854775807 then (if (x6_18 ++ x274000_86).toList = x5_18.toList then (emulatorlaw42_PipeOrder.l0 kj86 l1 x5_18 x6_18 (wrap64 (x7_2 + 1)) x274000_86 x274001_86 x274002_86) else (some false)) else (none))) = some r := by rw [if_pos rfl] at H; exact H
                            clear H
                            have H := H1
                            clear H1
                            by_cases c96 : x274001_86 = 0
                            · rw [if_pos c96] at H
                              have c96b0 : (x274001_86 == 0) = true := beq_iff_eq.mpr c96
                              have c96b1 : (x274001_86 != 0) = false := bne_eq_false_iff_eq.mpr c96
                              clear c96
                              by_cases c97 : x274000_86.toList = ([] : List UInt8)
                              · rw [if_pos c97] at H
                                have c97b0 : (x274000_86.toList == ([] : List UInt8)) = true := beq_iff_eq.mpr c97
                                have c97b1 : (x274000_86.toList != ([] : List UInt8)) = false := bne_eq_false_iff_eq.mpr c97
                                clear c97
                                replace H := Option.bind_eq_some_iff.mp H
                                obtain ⟨t298, A980, H⟩ := H
                                replace H : (some t298) = some r := H
                                have A98 := Aside0.mk A980
                                clear A980
                                obtain rfl := Option.some.inj H
                                have hnb99 := NB273_277.out
                                have hnc99 := NB277_273.out
                                have hnb100 := NB273_278.out
                                have hnc100 := NB278_273.out
                                have hcz101_0 : wc.cell? ⟨gb273, 0, none⟩ = some (.string x274000_86) := (blk_cell BK273.out 0).trans rfl
                                have hcz101_1 : wc.cell? ⟨gb273, 1, none⟩ = some (.int .i64 x274001_86) := (blk_cell BK273.out 1).trans rfl
                                have hcz101_2 : wc.cell? ⟨gb273, 2, none⟩ = some (.int .i64 x274002_86) := (blk_cell BK273.out 2).trans rfl
                                have hfz101_0 := blk_frozen BK273.out 0
                                have hfz101_1 := blk_frozen BK273.out 1
                                have hfz101_2 := blk_frozen BK273.out 2
                                go_wp2_with (first | ((with_reducible refine gate_callee (f := 9) rfl ?_); refine goesL_ (some 100) rfl rfl Try.func9 (by kernel_rfl) rfl #[.agg #[.string x274000_86, .int .i64 x274001_86, .int .i64 x274002_86]] rfl (by (try simp only [List.map_toArray, List.map_cons, List.map_nil]); first | done | rfl | (simp only [List.length_drop, List.length_take]; rfl)) ?_; (with_reducible refine (pipe_Right.calls x274000_86 x274001_86 x274002_86 true _ A94.out).mono ?_); rintro e w102 ⟨rfl, hb⟩; refine ⟨_, rfl, ?_⟩; have n0_ := Aside0.mk (blk_below (g := gb273) (o := .cells #[.string x274000_86, .int .i64 x274001_86, .int .i64 x274002_86] 23 (0, 0)) (by (with_reducible repeat (first | refine blk_drewN ?_ _ | refine blk_drew ?_ | refine blk_alloc ?_ _)); exact BK273.out) hb); have n1_ := Aside0.mk (blk_below (g := gb277) (o := .cells #[.int .i64 ((rd_T39 l1 x7_2).f0), .int .i64 ((rd_T39 l1 x7_2).f1), .string ((rd_T39 l1 x7_2).f2), .bool ((rd_T39 l1 x7_2).f3)] 39 (0, 0)) (by (with_reducible repeat (first | refine blk_drewN ?_ _ | refine blk_drew ?_ | refine blk_alloc ?_ _)); exact BK277.out) hb); have n2_ := Aside0.mk (blk_below (g := gb278) (o := .cells #[.string x279000_18, .int .i64 x279001_18, .int .i64 x279002_18] 23 (0, 0)) (by (with_reducible repeat (first | refine blk_drewN ?_ _ | refine blk_drew ?_ | refine blk_alloc ?_ _)); exact BK278.out) hb); have n3_ := Aside0.mk (below_step (by repeat (first | (with_reducible first | exact HB.out | apply below_alloc | apply pw_below_drewN | apply below_drew1 | refine below_set ?_ GE273.out | refine below_set ?_ GE277.out | refine below_set ?_ GE278.out) | exact HB.out)) hb); clear BK273; clear BK277; clear BK278; clear HB; have BK273 := n0_; have BK277 := n1_; have BK278 := n2_; have HB := n3_; clear n0_ n1_ n2_ n3_; (try clear hb); (try clear hb2); (try clear hk); (try clear hi); have hcz103_0 : w102.cell? ⟨gb273, 0, none⟩ = some (.string x274000_86) := (blk_cell BK273.out 0).trans rfl; have hcz103_1 : w102.cell? ⟨gb273, 1, none⟩ = some (.int .i64 x274001_86) := (blk_cell BK273.out 1).trans rfl; have hcz103_2 : w102.cell? ⟨gb273, 2, none⟩ = some (.int .i64 x274002_86) := (blk_cell BK273.out 2).trans rfl; have hfz103_0 := blk_frozen BK273.out 0; have hfz103_1 := blk_frozen BK273.out 1; have hfz103_2 := blk_frozen BK273.out 2) | (go_at_call 13; (with_reducible refine (emulatorlaw42_alive.calls kj86  t298 _ A98.out).mono ?_); rintro e w104 ⟨rfl, hb⟩; have n0_ := Aside0.mk (blk_below (g := gb273) (o := .cells #[.string x274000_86, .int .i64 x274001_86, .int .i64 x274002_86] 23 (0, 0)) (by (with_reducible repeat (first | refine blk_drewN ?_ _ | refine blk_drew ?_ | refine blk_alloc ?_ _)); exact BK273.out) hb); have n1_ := Aside0.mk (blk_below (g := gb277) (o := .cells #[.int .i64 ((rd_T39 l1 x7_2).f0), .int .i64 ((rd_T39 l1 x7_2).f1), .string ((rd_T39 l1 x7_2).f2), .bool ((rd_T39 l1 x7_2).f3)] 39 (0, 0)) (by (with_reducible repeat (first | refine blk_drewN ?_ _ | refine blk_drew ?_ | refine blk_alloc ?_ _)); exact BK277.out) hb); have n2_ := Aside0.mk (blk_below (g := gb278) (o := .cells #[.string x279000_18, .int .i64 x279001_18, .int .i64 x279002_18] 23 (0, 0)) (by (with_reducible repeat (first | refine blk_drewN ?_ _ | refine blk_drew ?_ | refine blk_alloc ?_ _)); exact BK278.out) hb); have n3_ := Aside0.mk (below_step (by repeat (first | (with_reducible first | exact HB.out | apply below_alloc | apply pw_below_drewN | apply below_drew1 | refine below_set ?_ GE273.out | refine below_set ?_ GE277.out | refine below_set ?_ GE278.out) | exact HB.out)) hb); clear BK273; clear BK277; clear BK278; clear HB; have BK273 := n0_; have BK277 := n1_; have BK278 := n2_; have HB := n3_; clear n0_ n1_ n2_ n3_; (try clear hb); (try clear hb2); (try clear hk); (try clear hi)))
                                go_ret
                                exact ⟨by first | rfl | (simp [errW_none, errW_some] <;> rfl) | (simp [*, errW_none, errW_some] <;> rfl), by repeat (first | (with_reducible first | exact HB.out | apply below_alloc | apply pw_below_drewN | apply below_drew1 | refine below_set ?_ GE273.out | refine below_set ?_ GE277.out | refine below_set ?_ GE278.out) | exact HB.out)⟩
                              · rw [if_neg c97] at H
                                exact absurd (H.trans (congrArg some hr_.out)) (by decide)
                            · rw [if_neg c96] at H
                              have c96b0 : (x274001_86 == 0) = false := beq_eq_false_iff_ne.mpr c96
                              have c96b1 : (x274001_86 != 0) = true := bne_iff_ne.mpr c96
                              by_cases c110 : x6_18.size + x274000_86.size ≤ 9223372036854775807
                              · rw [if_pos c110] at H
                                have c110b0 := eq_true c110
                                have c110b1 : decide (x6_18.size + x274000_86.size ≤ 9223372036854775807) = true := decide_eq_true c110
                                try have c110b2 : (9223372036854775807 < x6_18.size + x274000_86.size) = False := eq_false (Nat.not_lt.2 c110)
                                by_cases c111 : (x6_18 ++ x274000_86).toList = x5_18.toList
                                · rw [if_pos c111] at H
                                  have c111b0 : ((x6_18 ++ x274000_86).toList == x5_18.toList) = true := beq_iff_eq.mpr c111
                                  have c111b1 : ((x6_18 ++ x274000_86).toList != x5_18.toList) = false := bne_eq_false_iff_eq.mpr c111
                                  clear c111
                                  have H' := Aside0.mk H
                                  clear H
                                  have hnb112 := NB273_277.out
                                  have hnc112 := NB277_273.out
                                  have hnb113 := NB273_278.out
                                  have hnc113 := NB278_273.out
                                  have hcz114_0 : wc.cell? ⟨gb273, 0, none⟩ = some (.string x274000_86) := (blk_cell BK273.out 0).trans rfl
                                  have hcz114_1 : wc.cell? ⟨gb273, 1, none⟩ = some (.int .i64 x274001_86) := (blk_cell BK273.out 1).trans rfl
                                  have hcz114_2 : wc.cell? ⟨gb273, 2, none⟩ = some (.int .i64 x274002_86) := (blk_cell BK273.out 2).trans rfl
                                  have hfz114_0 := blk_frozen BK273.out 0
                                  have hfz114_1 := blk_frozen BK273.out 1
                                  have hfz114_2 := blk_frozen BK273.out 2
                                  go_wp2_with (first | ((with_reducible refine gate_callee (f := 9) rfl ?_); refine goesL_ (some 100) rfl rfl Try.func9 (by kernel_rfl) rfl #[.agg #[.string x274000_86, .int .i64 x274001_86, .int .i64 x274002_86]] rfl (by (try simp only [List.map_toArray, List.map_cons, List.map_nil]); first | done | rfl | (simp only [List.length_drop, List.length_take]; rfl)) ?_; (with_reducible refine (pipe_Right.calls x274000_86 x274001_86 x274002_86 true _ A94.out).mono ?_); rintro e w115 ⟨rfl, hb⟩; refine ⟨_, rfl, ?_⟩; have n0_ := Aside0.mk (blk_below (g := gb273) (o := .cells #[.string x274000_86, .int .i64 x274001_86, .int .i64 x274002_86] 23 (0, 0)) (by (with_reducible repeat (first | refine blk_drewN ?_ _ | refine blk_drew ?_ | refine blk_alloc ?_ _)); exact BK273.out) hb); have n1_ := Aside0.mk (blk_below (g := gb277) (o := .cells #[.int .i64 ((rd_T39 l1 x7_2).f0), .int .i64 ((rd_T39 l1 x7_2).f1), .string ((rd_T39 l1 x7_2).f2), .bool ((rd_T39 l1 x7_2).f3)] 39 (0, 0)) (by (with_reducible repeat (first | refine blk_drewN ?_ _ | refine blk_drew ?_ | refine blk_alloc ?_ _)); exact BK277.out) hb); have n2_ := Aside0.mk (blk_below (g := gb278) (o := .cells #[.string x279000_18, .int .i64 x279001_18, .int .i64 x279002_18] 23 (0, 0)) (by (with_reducible repeat (first | refine blk_drewN ?_ _ | refine blk_drew ?_ | refine blk_alloc ?_ _)); exact BK278.out) hb); have n3_ := Aside0.mk (below_step (by repeat (first | (with_reducible first | exact HB.out | apply below_alloc | apply pw_below_drewN | apply below_drew1 | refine below_set ?_ GE273.out | refine below_set ?_ GE277.out | refine below_set ?_ GE278.out) | exact HB.out)) hb); clear BK273; clear BK277; clear BK278; clear HB; have BK273 := n0_; have BK277 := n1_; have BK278 := n2_; have HB := n3_; clear n0_ n1_ n2_ n3_; (try clear hb); (try clear hb2); (try clear hk); (try clear hi); have hcz116_0 : w115.cell? ⟨gb273, 0, none⟩ = some (.string x274000_86) := (blk_cell BK273.out 0).trans rfl; have hcz116_1 : w115.cell? ⟨gb273, 1, none⟩ = some (.int .i64 x274001_86) := (blk_cell BK273.out 1).trans rfl; have hcz116_2 : w115.cell? ⟨gb273, 2, none⟩ = some (.int .i64 x274002_86) := (blk_cell BK273.out 2).trans rfl; have hfz116_0 := blk_frozen BK273.out 0; have hfz116_1 := blk_frozen BK273.out 1; have hfz116_2 := blk_frozen BK273.out 2))
                                  go_roundg kj86
                                  case measure => have := HJ2.out; have := HK2.out; have := HJ18.out; have := HJ86.out; omega
                                  case rel => exact ⟨(x5_18), (x6_18), (wrap64 (x7_2 + 1)), (x274000_86), (x274001_86), (x274002_86), (by first | rfl | (simp; done) | (simp [*]; done)), (by first | rfl | (simp; done) | (simp [*]; done)), (by first | rfl | (simp; done) | (simp [*]; done)), H', ⟨by have := HJ2.out; have := HK2.out; have := HJ18.out; have := HJ86.out; omega⟩, ⟨by (with_reducible repeat (first | refine blk_drewN ?_ _ | refine blk_drew ?_ | refine blk_alloc ?_ _)); exact BK273.out⟩, ⟨by repeat (first | (with_reducible first | exact HB.out | apply below_alloc | apply pw_below_drewN | apply below_drew1 | refine below_set ?_ GE273.out | refine below_set ?_ GE277.out | refine below_set ?_ GE278.out) | exact HB.out)⟩⟩
                                · rw [if_neg c111] at H
                                  exact absurd (H.trans (congrArg some hr_.out)) (by decide)
                              · rw [if_neg c110] at H
                                exact absurd H (by simp)
                          · replace c95 := Bool.eq_false_iff.mpr c95
                            subst c95
                            have H1 : (some false) = some r := by rw [if_neg (show ¬ (false = true) by decide)] at H; exact H
                            clear H
                            have H := H1
                            clear H1
                            exact absurd (H.trans (congrArg some hr_.out)) (by decide)
              · rw [if_neg c14] at H
                exact absurd H (by simp)
            · rw [if_neg c13] at H
              have c13b0 : decide (x7_2 < (l1.length : Int)) = false := decide_eq_false c13
              clear c13
              replace H := Option.bind_eq_some_iff.mp H
              obtain ⟨t275, A1260, H⟩ := H
              replace H : (some t275) = some r := H
              have A126 := Aside0.mk A1260
              clear A1260
              obtain rfl := Option.some.inj H
              go_wp2_with (first | ((with_reducible refine gate_callee (f := 13) rfl ?_); refine goesL_ (some 117) rfl rfl Try.func13 (by kernel_rfl) rfl #[] rfl (by (try simp only [List.map_toArray, List.map_cons, List.map_nil]); first | done | rfl | (simp only [List.length_drop, List.length_take]; rfl)) ?_; (with_reducible refine (emulatorlaw42_alive.calls k2  t275 _ A126.out).mono ?_); rintro e w127 ⟨rfl, hb⟩; refine ⟨_, rfl, ?_⟩; have n0_ := Aside0.mk (blk_below (g := gb273) (o := .cells #[.string x274000_2, .int .i64 x274001_2, .int .i64 x274002_2] 23 (0, 0)) (by (with_reducible repeat (first | refine blk_drewN ?_ _ | refine blk_drew ?_ | refine blk_alloc ?_ _)); exact BK273.out) hb); have n1_ := Aside0.mk (below_step (by repeat (first | (with_reducible first | exact HB.out | apply below_alloc | apply pw_below_drewN | apply below_drew1 | refine below_set ?_ GE273.out) | exact HB.out)) hb); clear BK273; clear HB; have BK273 := n0_; have HB := n1_; clear n0_ n1_; (try clear hb); (try clear hb2); (try clear hk); (try clear hi)))
              go_ret
              exact ⟨by first | rfl | (simp [errW_none, errW_some] <;> rfl) | (simp [*, errW_none, errW_some] <;> rfl), by repeat (first | (with_reducible first | exact HB.out | apply below_alloc | apply pw_below_drewN | apply below_drew1 | refine below_set ?_ GE273.out) | exact HB.out)⟩

end Go.Proofs.Ytamncbcephalaaa.A
