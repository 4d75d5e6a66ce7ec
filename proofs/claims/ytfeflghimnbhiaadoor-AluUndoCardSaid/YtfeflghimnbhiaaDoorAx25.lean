-- Written by a program of this session (mp.py) over the kit's print.py, with proofs by hand for what the print does not take.
import Derived.Test.YtfeflghimnbhiaaDoorAx0
import Derived.Test.YtfeflghimnbhiaaDoorAx4
import Derived.Test.YtfeflghimnbhiaaDoorAx9
import Derived.Test.YtfeflghimnbhiaaDoorAx13
namespace Go.Proofs.YtfeflghimnbhiaaDoor.A
open Go.RowKit Go.Proofs.YtfeflghimnbhiaaDoorW.PrintWords Go.Proofs.YtfeflghimnbhiaaDoorW.PrintLast Go.Proofs.YtfeflghimnbhiaaDoorW.PrintMore
attribute [local go_sem] max2_int min2_int max_two min_two max_three min_three max_four min_four   -- for this text's walks alone
set_option linter.unusedVariables false
set_option linter.unusedSimpArgs false

/-! ### emulatorlaw10_AluUndo: function 9 -/
mutual
def emulatorlaw10_AluUndo.j0 : Nat → Int → Int → Int → Bool → Int → Option (Bool)
  | 0, _, _, _, _, _ => none
  | k + 1, x0, x1, x2, x3, x9 => (alu_Single.f k 13 x3 x0 x2).bind fun bt360 => ((alu_Single.f k 13 x3 bt360.1 x2).bind fun bt363 => ((alu_Single.f k 16 x3 x0 x2).bind fun bt366 => ((alu_Single.f k 16 x3 bt366.1 x2).bind fun bt369 => ((alu_Single.f k 14 x3 x0 x2).bind fun bt372 => ((alu_Single.f k 15 x3 bt372.1 x2).bind fun bt375 => (if bt363.1 = (Go.bits .and .i64 x0 x9) then (if bt369.1 = (Go.bits .and .i64 x0 x9) then (emulatorlaw10_AluUndo.j1 k x0 x1 x2 (bt375.1 != (Go.bits .and .i64 x0 x9))) else (emulatorlaw10_AluUndo.j1 k x0 x1 x2 true)) else (emulatorlaw10_AluUndo.j1 k x0 x1 x2 true)))))))
def emulatorlaw10_AluUndo.j1 : Nat → Int → Int → Int → Bool → Option (Bool)
  | 0, _, _, _, _ => none
  | k + 1, x0, x1, x2, x92 => if x92 = true then (some false) else ((alu_Single.f k 24 false x0 x2).bind fun bt378 => ((alu_Single.f k 24 false bt378.1 x2).bind fun bt381 => ((alu_Double.f 6 false x1 x0 x2).bind fun bt384 => ((alu_Double.f 7 false x1 bt384.1 x2).bind fun bt387 => (if bt381.1 = (Go.bits .and .i64 x0 65535) then (if bt387.1 = (Go.bits .and .i64 x0 65535) then ((emulatorlaw10_alive.f k).bind fun t390 => (some t390)) else (some false)) else (some false))))))
end
def emulatorlaw10_AluUndo.f (k : Nat) (a0 : Int) (a1 : Int) (a2 : Int) (a3 : Bool) : Option (Bool) := if a3 = true then (emulatorlaw10_AluUndo.j0 k a0 a1 a2 a3 255) else (emulatorlaw10_AluUndo.j0 k a0 a1 a2 a3 65535)
theorem emulatorlaw10_AluUndo.mono_l : ∀ k, (∀ y0 y1 y2 y3 y4, LeO (emulatorlaw10_AluUndo.j0 k y0 y1 y2 y3 y4) (emulatorlaw10_AluUndo.j0 (k + 1) y0 y1 y2 y3 y4)) ∧ (∀ y0 y1 y2 y3, LeO (emulatorlaw10_AluUndo.j1 k y0 y1 y2 y3) (emulatorlaw10_AluUndo.j1 (k + 1) y0 y1 y2 y3))
  | 0 => ⟨fun _ _ _ _ _ r h => by simp [emulatorlaw10_AluUndo.j0] at h, fun _ _ _ _ r h => by simp [emulatorlaw10_AluUndo.j1] at h⟩
  | k + 1 => by
    obtain ⟨ih0, ih1⟩ := emulatorlaw10_AluUndo.mono_l k
    refine ⟨?_, ?_⟩
    · intro y0 y1 y2 y3 y4
      unfold emulatorlaw10_AluUndo.j0
      repeat' first
      | (with_reducible exact ih0 _ _ _ _ _)
      | (with_reducible exact ih1 _ _ _ _)
      | (with_reducible exact alu_Single.mono _ _ _ _ _)
      | (with_reducible exact emulatorlaw10_alive.mono _)
      | (with_reducible exact LeO.refl _)
      | (with_reducible exact LeO.none _)
      | (with_reducible refine LeO.ite ?_ ?_)
      | (with_reducible refine LeO.bind ?_ (fun _ => ?_))
      | exact ih0 _ _ _ _ _
      | exact ih1 _ _ _ _
      | exact alu_Single.mono _ _ _ _ _
      | exact emulatorlaw10_alive.mono _
      | exact LeO.none _
      | refine LeO.ite ?_ ?_
      | refine LeO.bind ?_ (fun _ => ?_)
    · intro y0 y1 y2 y3
      unfold emulatorlaw10_AluUndo.j1
      repeat' first
      | (with_reducible exact ih0 _ _ _ _ _)
      | (with_reducible exact ih1 _ _ _ _)
      | (with_reducible exact alu_Single.mono _ _ _ _ _)
      | (with_reducible exact emulatorlaw10_alive.mono _)
      | (with_reducible exact LeO.refl _)
      | (with_reducible exact LeO.none _)
      | (with_reducible refine LeO.ite ?_ ?_)
      | (with_reducible refine LeO.bind ?_ (fun _ => ?_))
      | exact ih0 _ _ _ _ _
      | exact ih1 _ _ _ _
      | exact alu_Single.mono _ _ _ _ _
      | exact emulatorlaw10_alive.mono _
      | exact LeO.none _
      | refine LeO.ite ?_ ?_
      | refine LeO.bind ?_ (fun _ => ?_)
theorem emulatorlaw10_AluUndo.mono : ∀ a0 a1 a2 a3 k, LeO (emulatorlaw10_AluUndo.f k a0 a1 a2 a3) (emulatorlaw10_AluUndo.f (k + 1) a0 a1 a2 a3) := by
  intro a0 a1 a2 a3 k
  obtain ⟨ih0, ih1⟩ := emulatorlaw10_AluUndo.mono_l k
  unfold emulatorlaw10_AluUndo.f
  repeat' first
      | (with_reducible exact ih0 _ _ _ _ _)
      | (with_reducible exact ih1 _ _ _ _)
      | (with_reducible exact alu_Single.mono _ _ _ _ _)
      | (with_reducible exact emulatorlaw10_alive.mono _)
      | (with_reducible exact LeO.refl _)
      | (with_reducible exact LeO.none _)
      | (with_reducible refine LeO.ite ?_ ?_)
      | (with_reducible refine LeO.bind ?_ (fun _ => ?_))
      | exact ih0 _ _ _ _ _
      | exact ih1 _ _ _ _
      | exact alu_Single.mono _ _ _ _ _
      | exact emulatorlaw10_alive.mono _
      | exact LeO.none _
      | refine LeO.ite ?_ ?_
      | refine LeO.bind ?_ (fun _ => ?_)
set_option maxHeartbeats 8000000 in
set_option maxRecDepth 100000 in
theorem emulatorlaw10_AluUndo.calls (k : Nat) (a0 : Int) (a1 : Int) (a2 : Int) (a3 : Bool) (r : Bool) (w : World) (hS : Sz w) (h : emulatorlaw10_AluUndo.f k a0 a1 a2 a3 = some r) (hr0 : r = true) :
    Calls Tryd.prog 9 #[.int .i64 a0, .int .i64 a1, .int .i64 a2, .bool a3] w fun e w' => e = .returned (.bool r) ∧ Below w.heap.size w w' := by
  have hr_ := Aside0.mk hr0
  clear hr0
  have HB := Aside0.mk (Below.refl w.heap.size w)
  have H : (if a3 = true then (emulatorlaw10_AluUndo.j0 k a0 a1 a2 a3 255) else (emulatorlaw10_AluUndo.j0 k a0 a1 a2 a3 65535)) = some r := h
  clear h
  have HC5 := Aside0.mk H
  clear H
  go_enter Tryd.func9, Tryd.ntmps9
  go_upto_if 25 with (fail)
  go_cut [9] (fun v9 wc => ∃ (kq : Nat) (x9_4 : Int), v9 = .int .i64 x9_4 ∧ Aside0 (emulatorlaw10_AluUndo.j0 kq a0 a1 a2 a3 x9_4 = some r) ∧ Aside0 (kq ≤ k) ∧ Aside0 (Below w.heap.size w wc))
  case first =>
    have H := HC5.out
    clear HC5
    by_cases c6 : a3 = true
    · subst c6
      have H1 : (emulatorlaw10_AluUndo.j0 k a0 a1 a2 true 255) = some r := by rw [if_pos rfl] at H; exact H
      clear H
      have H := H1
      clear H1
      have H' := Aside0.mk H
      clear H
      go_wp2
      go_meet
      case rel => exact ⟨_, (255), (by first | rfl | (simp; done) | (simp [*]; done)), H', ⟨by first | omega | exact Nat.le_refl _⟩, ⟨by repeat (first | (with_reducible first | exact HB.out | apply below_alloc | apply pw_below_drewN | apply below_drew1) | exact HB.out)⟩⟩
    · replace c6 := Bool.eq_false_iff.mpr c6
      subst c6
      have H1 : (emulatorlaw10_AluUndo.j0 k a0 a1 a2 false 65535) = some r := by rw [if_neg (show ¬ (false = true) by decide)] at H; exact H
      clear H
      have H := H1
      clear H1
      have H' := Aside0.mk H
      clear H
      go_wp2
      go_meet
      case rel => exact ⟨_, (65535), (by first | rfl | (simp; done) | (simp [*]; done)), H', ⟨by first | omega | exact Nat.le_refl _⟩, ⟨by repeat (first | (with_reducible first | exact HB.out | apply below_alloc | apply pw_below_drewN | apply below_drew1) | exact HB.out)⟩⟩
  case rest =>
    clear HC5
    try clear p2
    try clear c6
    obtain ⟨kq, x9_4, rfl, HA, HJ4, HB⟩ := hcut
    cases kq with
    | zero => exact absurd HA.out (by simp [emulatorlaw10_AluUndo.j0])
    | succ kj4 =>
      have H := HA.out
      clear HA
      simp only [emulatorlaw10_AluUndo.j0] at H
      replace H := Option.bind_eq_some_iff.mp H
      obtain ⟨⟨t360, t361, t362⟩, A70, H⟩ := H
      replace H : ((alu_Single.f kj4 13 a3 t360 a2).bind fun bt363 => ((alu_Single.f kj4 16 a3 a0 a2).bind fun bt366 => ((alu_Single.f kj4 16 a3 bt366.1 a2).bind fun bt369 => ((alu_Single.f kj4 14 a3 a0 a2).bind fun bt372 => ((alu_Single.f kj4 15 a3 bt372.1 a2).bind fun bt375 => (if bt363.1 = (Go.bits .and .i64 a0 x9_4) then (if bt369.1 = (Go.bits .and .i64 a0 x9_4) then (emulatorlaw10_AluUndo.j1 kj4 a0 a1 a2 (bt375.1 != (Go.bits .and .i64 a0 x9_4))) else (emulatorlaw10_AluUndo.j1 kj4 a0 a1 a2 true)) else (emulatorlaw10_AluUndo.j1 kj4 a0 a1 a2 true))))))) = some r := H
      have A7 := Aside0.mk A70
      clear A70
      replace H := Option.bind_eq_some_iff.mp H
      obtain ⟨⟨t363, t364, t365⟩, A80, H⟩ := H
      replace H : ((alu_Single.f kj4 16 a3 a0 a2).bind fun bt366 => ((alu_Single.f kj4 16 a3 bt366.1 a2).bind fun bt369 => ((alu_Single.f kj4 14 a3 a0 a2).bind fun bt372 => ((alu_Single.f kj4 15 a3 bt372.1 a2).bind fun bt375 => (if t363 = (Go.bits .and .i64 a0 x9_4) then (if bt369.1 = (Go.bits .and .i64 a0 x9_4) then (emulatorlaw10_AluUndo.j1 kj4 a0 a1 a2 (bt375.1 != (Go.bits .and .i64 a0 x9_4))) else (emulatorlaw10_AluUndo.j1 kj4 a0 a1 a2 true)) else (emulatorlaw10_AluUndo.j1 kj4 a0 a1 a2 true)))))) = some r := H
      have A8 := Aside0.mk A80
      clear A80
      replace H := Option.bind_eq_some_iff.mp H
      obtain ⟨⟨t366, t367, t368⟩, A90, H⟩ := H
      replace H : ((alu_Single.f kj4 16 a3 t366 a2).bind fun bt369 => ((alu_Single.f kj4 14 a3 a0 a2).bind fun bt372 => ((alu_Single.f kj4 15 a3 bt372.1 a2).bind fun bt375 => (if t363 = (Go.bits .and .i64 a0 x9_4) then (if bt369.1 = (Go.bits .and .i64 a0 x9_4) then (emulatorlaw10_AluUndo.j1 kj4 a0 a1 a2 (bt375.1 != (Go.bits .and .i64 a0 x9_4))) else (emulatorlaw10_AluUndo.j1 kj4 a0 a1 a2 true)) else (emulatorlaw10_AluUndo.j1 kj4 a0 a1 a2 true))))) = some r := H
      have A9 := Aside0.mk A90
      clear A90
      replace H := Option.bind_eq_some_iff.mp H
      obtain ⟨⟨t369, t370, t371⟩, A100, H⟩ := H
      replace H : ((alu_Single.f kj4 14 a3 a0 a2).bind fun bt372 => ((alu_Single.f kj4 15 a3 bt372.1 a2).bind fun bt375 => (if t363 = (Go.bits .and .i64 a0 x9_4) then (if t369 = (Go.bits .and .i64 a0 x9_4) then (emulatorlaw10_AluUndo.j1 kj4 a0 a1 a2 (bt375.1 != (Go.bits .and .i64 a0 x9_4))) else (emulatorlaw10_AluUndo.j1 kj4 a0 a1 a2 true)) else (emulatorlaw10_AluUndo.j1 kj4 a0 a1 a2 true)))) = some r := H
      have A10 := Aside0.mk A100
      clear A100
      replace H := Option.bind_eq_some_iff.mp H
      obtain ⟨⟨t372, t373, t374⟩, A110, H⟩ := H
      replace H : ((alu_Single.f kj4 15 a3 t372 a2).bind fun bt375 => (if t363 = (Go.bits .and .i64 a0 x9_4) then (if t369 = (Go.bits .and .i64 a0 x9_4) then (emulatorlaw10_AluUndo.j1 kj4 a0 a1 a2 (bt375.1 != (Go.bits .and .i64 a0 x9_4))) else (emulatorlaw10_AluUndo.j1 kj4 a0 a1 a2 true)) else (emulatorlaw10_AluUndo.j1 kj4 a0 a1 a2 true))) = some r := H
      have A11 := Aside0.mk A110
      clear A110
      replace H := Option.bind_eq_some_iff.mp H
      obtain ⟨⟨t375, t376, t377⟩, A120, H⟩ := H
      replace H : (if t363 = (Go.bits .and .i64 a0 x9_4) then (if t369 = (Go.bits .and .i64 a0 x9_4) then (emulatorlaw10_AluUndo.j1 kj4 a0 a1 a2 (t375 != (Go.bits .and .i64 a0 x9_4))) else (emulatorlaw10_AluUndo.j1 kj4 a0 a1 a2 true)) else (emulatorlaw10_AluUndo.j1 kj4 a0 a1 a2 true)) = some r := H
      have A12 := Aside0.mk A120
      clear A120
      have HC13 := Aside0.mk H
      clear H
      go_upto_region 10 with (first | ((with_reducible refine gate_callee (f := 13) rfl ?_); refine goesL_ (some 30) rfl rfl Tryd.func13 (by kernel_rfl) rfl #[.int .i64 13, .bool a3, .int .i64 a0, .int .i64 a2] rfl (by (try simp only [List.map_toArray, List.map_cons, List.map_nil]); first | done | rfl | (simp only [List.length_drop, List.length_take]; rfl)) ?_; (with_reducible refine (alu_Single.calls kj4 13 a3 a0 a2 t360 t361 t362 _ (hS.go (by repeat (first | (with_reducible first | exact HB.out | apply below_alloc | apply pw_below_drewN | apply below_drew1) | exact HB.out))) A7.out).mono ?_); rintro e w14 ⟨rfl, hb⟩; refine ⟨_, rfl, ?_⟩; have n0_ := Aside0.mk (below_step (by repeat (first | (with_reducible first | exact HB.out | apply below_alloc | apply pw_below_drewN | apply below_drew1) | exact HB.out)) hb); clear HB; have HB := n0_; clear n0_; (try clear hb); (try clear hb2); (try clear hk); (try clear hi)) | ((with_reducible refine gate_callee (f := 13) rfl ?_); refine goesL_ (some 38) rfl rfl Tryd.func13 (by kernel_rfl) rfl #[.int .i64 13, .bool a3, .int .i64 t360, .int .i64 a2] rfl (by (try simp only [List.map_toArray, List.map_cons, List.map_nil]); first | done | rfl | (simp only [List.length_drop, List.length_take]; rfl)) ?_; (with_reducible refine (alu_Single.calls kj4 13 a3 t360 a2 t363 t364 t365 _ (hS.go (by repeat (first | (with_reducible first | exact HB.out | apply below_alloc | apply pw_below_drewN | apply below_drew1) | exact HB.out))) A8.out).mono ?_); rintro e w15 ⟨rfl, hb⟩; refine ⟨_, rfl, ?_⟩; have n0_ := Aside0.mk (below_step (by repeat (first | (with_reducible first | exact HB.out | apply below_alloc | apply pw_below_drewN | apply below_drew1) | exact HB.out)) hb); clear HB; have HB := n0_; clear n0_; (try clear hb); (try clear hb2); (try clear hk); (try clear hi)) | ((with_reducible refine gate_callee (f := 13) rfl ?_); refine goesL_ (some 46) rfl rfl Tryd.func13 (by kernel_rfl) rfl #[.int .i64 16, .bool a3, .int .i64 a0, .int .i64 a2] rfl (by (try simp only [List.map_toArray, List.map_cons, List.map_nil]); first | done | rfl | (simp only [List.length_drop, List.length_take]; rfl)) ?_; (with_reducible refine (alu_Single.calls kj4 16 a3 a0 a2 t366 t367 t368 _ (hS.go (by repeat (first | (with_reducible first | exact HB.out | apply below_alloc | apply pw_below_drewN | apply below_drew1) | exact HB.out))) A9.out).mono ?_); rintro e w16 ⟨rfl, hb⟩; refine ⟨_, rfl, ?_⟩; have n0_ := Aside0.mk (below_step (by repeat (first | (with_reducible first | exact HB.out | apply below_alloc | apply pw_below_drewN | apply below_drew1) | exact HB.out)) hb); clear HB; have HB := n0_; clear n0_; (try clear hb); (try clear hb2); (try clear hk); (try clear hi)) | ((with_reducible refine gate_callee (f := 13) rfl ?_); refine goesL_ (some 54) rfl rfl Tryd.func13 (by kernel_rfl) rfl #[.int .i64 16, .bool a3, .int .i64 t366, .int .i64 a2] rfl (by (try simp only [List.map_toArray, List.map_cons, List.map_nil]); first | done | rfl | (simp only [List.length_drop, List.length_take]; rfl)) ?_; (with_reducible refine (alu_Single.calls kj4 16 a3 t366 a2 t369 t370 t371 _ (hS.go (by repeat (first | (with_reducible first | exact HB.out | apply below_alloc | apply pw_below_drewN | apply below_drew1) | exact HB.out))) A10.out).mono ?_); rintro e w17 ⟨rfl, hb⟩; refine ⟨_, rfl, ?_⟩; have n0_ := Aside0.mk (below_step (by repeat (first | (with_reducible first | exact HB.out | apply below_alloc | apply pw_below_drewN | apply below_drew1) | exact HB.out)) hb); clear HB; have HB := n0_; clear n0_; (try clear hb); (try clear hb2); (try clear hk); (try clear hi)) | ((with_reducible refine gate_callee (f := 13) rfl ?_); refine goesL_ (some 62) rfl rfl Tryd.func13 (by kernel_rfl) rfl #[.int .i64 14, .bool a3, .int .i64 a0, .int .i64 a2] rfl (by (try simp only [List.map_toArray, List.map_cons, List.map_nil]); first | done | rfl | (simp only [List.length_drop, List.length_take]; rfl)) ?_; (with_reducible refine (alu_Single.calls kj4 14 a3 a0 a2 t372 t373 t374 _ (hS.go (by repeat (first | (with_reducible first | exact HB.out | apply below_alloc | apply pw_below_drewN | apply below_drew1) | exact HB.out))) A11.out).mono ?_); rintro e w18 ⟨rfl, hb⟩; refine ⟨_, rfl, ?_⟩; have n0_ := Aside0.mk (below_step (by repeat (first | (with_reducible first | exact HB.out | apply below_alloc | apply pw_below_drewN | apply below_drew1) | exact HB.out)) hb); clear HB; have HB := n0_; clear n0_; (try clear hb); (try clear hb2); (try clear hk); (try clear hi)) | ((with_reducible refine gate_callee (f := 13) rfl ?_); refine goesL_ (some 70) rfl rfl Tryd.func13 (by kernel_rfl) rfl #[.int .i64 15, .bool a3, .int .i64 t372, .int .i64 a2] rfl (by (try simp only [List.map_toArray, List.map_cons, List.map_nil]); first | done | rfl | (simp only [List.length_drop, List.length_take]; rfl)) ?_; (with_reducible refine (alu_Single.calls kj4 15 a3 t372 a2 t375 t376 t377 _ (hS.go (by repeat (first | (with_reducible first | exact HB.out | apply below_alloc | apply pw_below_drewN | apply below_drew1) | exact HB.out))) A12.out).mono ?_); rintro e w19 ⟨rfl, hb⟩; refine ⟨_, rfl, ?_⟩; have n0_ := Aside0.mk (below_step (by repeat (first | (with_reducible first | exact HB.out | apply below_alloc | apply pw_below_drewN | apply below_drew1) | exact HB.out)) hb); clear HB; have HB := n0_; clear n0_; (try clear hb); (try clear hb2); (try clear hk); (try clear hi)))
      (try simp only [Act.put, List.setIfInBounds_toArray, List.set_cons_zero, List.set_cons_succ])
      go_cut [92] (fun v92 wc => ∃ (kq : Nat) (x92_12 : Bool), v92 = .bool x92_12 ∧ Aside0 (emulatorlaw10_AluUndo.j1 kq a0 a1 a2 x92_12 = some r) ∧ Aside0 (kq ≤ kj4) ∧ Aside0 (Below w.heap.size w wc))
      case first =>
        have H := HC13.out
        clear HC13
        by_cases c20 : t363 = (Go.bits .and .i64 a0 x9_4)
        · rw [if_pos c20] at H
          have c20b0 : (t363 == (Go.bits .and .i64 a0 x9_4)) = true := beq_iff_eq.mpr c20
          have c20b1 : (t363 != (Go.bits .and .i64 a0 x9_4)) = false := bne_eq_false_iff_eq.mpr c20
          clear c20
          (first | rw [c20b0] | (simp only [i64_w, i32_w]; rw [c20b0]) | skip)
          by_cases c21 : t369 = (Go.bits .and .i64 a0 x9_4)
          · rw [if_pos c21] at H
            have c21b0 : (t369 == (Go.bits .and .i64 a0 x9_4)) = true := beq_iff_eq.mpr c21
            have c21b1 : (t369 != (Go.bits .and .i64 a0 x9_4)) = false := bne_eq_false_iff_eq.mpr c21
            clear c21
            have H' := Aside0.mk H
            clear H
            go_wp2
            go_meet
            case rel => exact ⟨_, ((t375 != (Go.bits .and .i64 a0 x9_4))), (by first | rfl | (simp; done) | (simp [*]; done)), H', ⟨by have := HJ4.out; first | omega | exact Nat.le_refl _⟩, ⟨by repeat (first | (with_reducible first | exact HB.out | apply below_alloc | apply pw_below_drewN | apply below_drew1) | exact HB.out)⟩⟩
          · rw [if_neg c21] at H
            have c21b0 : (t369 == (Go.bits .and .i64 a0 x9_4)) = false := beq_eq_false_iff_ne.mpr c21
            have c21b1 : (t369 != (Go.bits .and .i64 a0 x9_4)) = true := bne_iff_ne.mpr c21
            have H' := Aside0.mk H
            clear H
            go_wp2
            go_meet
            case rel => exact ⟨_, (true), (by first | rfl | (simp; done) | (simp [*]; done)), H', ⟨by have := HJ4.out; first | omega | exact Nat.le_refl _⟩, ⟨by repeat (first | (with_reducible first | exact HB.out | apply below_alloc | apply pw_below_drewN | apply below_drew1) | exact HB.out)⟩⟩
        · rw [if_neg c20] at H
          have c20b0 : (t363 == (Go.bits .and .i64 a0 x9_4)) = false := beq_eq_false_iff_ne.mpr c20
          have c20b1 : (t363 != (Go.bits .and .i64 a0 x9_4)) = true := bne_iff_ne.mpr c20
          (first | rw [c20b0] | (simp only [i64_w, i32_w]; rw [c20b0]) | skip)
          have H' := Aside0.mk H
          clear H
          go_wp2
          go_meet
          case rel => exact ⟨_, (true), (by first | rfl | (simp; done) | (simp [*]; done)), H', ⟨by have := HJ4.out; first | omega | exact Nat.le_refl _⟩, ⟨by repeat (first | (with_reducible first | exact HB.out | apply below_alloc | apply pw_below_drewN | apply below_drew1) | exact HB.out)⟩⟩
      case rest =>
        clear HC13
        try clear c1
        try clear c2
        try clear p2
        try clear c6
        try clear c9
        try clear c13
        try clear c20
        try clear c20b0
        try clear c20b1
        try clear c21
        try clear c21b0
        try clear c21b1
        try clear p2
        obtain ⟨kq, x92_12, rfl, HA, HJ12, HB⟩ := hcut
        cases kq with
        | zero => exact absurd HA.out (by simp [emulatorlaw10_AluUndo.j1])
        | succ kj12 =>
          have H := HA.out
          clear HA
          simp only [emulatorlaw10_AluUndo.j1] at H
          by_cases c22 : x92_12 = true
          · subst c22
            have H1 : (some false) = some r := by rw [if_pos rfl] at H; exact H
            clear H
            have H := H1
            clear H1
            exact absurd (H.trans (congrArg some hr_.out)) (by decide)
          · replace c22 := Bool.eq_false_iff.mpr c22
            subst c22
            have H1 : ((alu_Single.f kj12 24 false a0 a2).bind fun bt378 => ((alu_Single.f kj12 24 false bt378.1 a2).bind fun bt381 => ((alu_Double.f 6 false a1 a0 a2).bind fun bt384 => ((alu_Double.f 7 false a1 bt384.1 a2).bind fun bt387 => (if bt381.1 = (Go.bits .and .i64 a0 65535) then (if bt387.1 = (Go.bits .and .i64 a0 65535) then ((emulatorlaw10_alive.f kj12).bind fun t390 => (some t390)) else (some false)) else (some false)))))) = some r := by rw [if_neg (show ¬ (false = true) by decide)] at H; exact H
            clear H
            have H := H1
            clear H1
            replace H := Option.bind_eq_some_iff.mp H
            obtain ⟨⟨t378, t379, t380⟩, A230, H⟩ := H
            replace H : ((alu_Single.f kj12 24 false t378 a2).bind fun bt381 => ((alu_Double.f 6 false a1 a0 a2).bind fun bt384 => ((alu_Double.f 7 false a1 bt384.1 a2).bind fun bt387 => (if bt381.1 = (Go.bits .and .i64 a0 65535) then (if bt387.1 = (Go.bits .and .i64 a0 65535) then ((emulatorlaw10_alive.f kj12).bind fun t390 => (some t390)) else (some false)) else (some false))))) = some r := H
            have A23 := Aside0.mk A230
            clear A230
            replace H := Option.bind_eq_some_iff.mp H
            obtain ⟨⟨t381, t382, t383⟩, A240, H⟩ := H
            replace H : ((alu_Double.f 6 false a1 a0 a2).bind fun bt384 => ((alu_Double.f 7 false a1 bt384.1 a2).bind fun bt387 => (if t381 = (Go.bits .and .i64 a0 65535) then (if bt387.1 = (Go.bits .and .i64 a0 65535) then ((emulatorlaw10_alive.f kj12).bind fun t390 => (some t390)) else (some false)) else (some false)))) = some r := H
            have A24 := Aside0.mk A240
            clear A240
            replace H := Option.bind_eq_some_iff.mp H
            obtain ⟨⟨t384, t385, t386⟩, A250, H⟩ := H
            replace H : ((alu_Double.f 7 false a1 t384 a2).bind fun bt387 => (if t381 = (Go.bits .and .i64 a0 65535) then (if bt387.1 = (Go.bits .and .i64 a0 65535) then ((emulatorlaw10_alive.f kj12).bind fun t390 => (some t390)) else (some false)) else (some false))) = some r := H
            have A25 := Aside0.mk A250
            clear A250
            replace H := Option.bind_eq_some_iff.mp H
            obtain ⟨⟨t387, t388, t389⟩, A260, H⟩ := H
            replace H : (if t381 = (Go.bits .and .i64 a0 65535) then (if t387 = (Go.bits .and .i64 a0 65535) then ((emulatorlaw10_alive.f kj12).bind fun t390 => (some t390)) else (some false)) else (some false)) = some r := H
            have A26 := Aside0.mk A260
            clear A260
            by_cases c27 : t381 = (Go.bits .and .i64 a0 65535)
            · rw [if_pos c27] at H
              have c27b0 : (t381 == (Go.bits .and .i64 a0 65535)) = true := beq_iff_eq.mpr c27
              have c27b1 : (t381 != (Go.bits .and .i64 a0 65535)) = false := bne_eq_false_iff_eq.mpr c27
              clear c27
              by_cases c28 : t387 = (Go.bits .and .i64 a0 65535)
              · rw [if_pos c28] at H
                have c28b0 : (t387 == (Go.bits .and .i64 a0 65535)) = true := beq_iff_eq.mpr c28
                have c28b1 : (t387 != (Go.bits .and .i64 a0 65535)) = false := bne_eq_false_iff_eq.mpr c28
                clear c28
                replace H := Option.bind_eq_some_iff.mp H
                obtain ⟨t390, A290, H⟩ := H
                replace H : (some t390) = some r := H
                have A29 := Aside0.mk A290
                clear A290
                obtain rfl := Option.some.inj H
                go_wp2_with (first | ((with_reducible refine gate_callee (f := 13) rfl ?_); refine goesL_ (some 96) rfl rfl Tryd.func13 (by kernel_rfl) rfl #[.int .i64 24, .bool false, .int .i64 a0, .int .i64 a2] rfl (by (try simp only [List.map_toArray, List.map_cons, List.map_nil]); first | done | rfl | (simp only [List.length_drop, List.length_take]; rfl)) ?_; (with_reducible refine (alu_Single.calls kj12 24 false a0 a2 t378 t379 t380 _ (hS.go (by repeat (first | (with_reducible first | exact HB.out | apply below_alloc | apply pw_below_drewN | apply below_drew1) | exact HB.out))) A23.out).mono ?_); rintro e w30 ⟨rfl, hb⟩; refine ⟨_, rfl, ?_⟩; have n0_ := Aside0.mk (below_step (by repeat (first | (with_reducible first | exact HB.out | apply below_alloc | apply pw_below_drewN | apply below_drew1) | exact HB.out)) hb); clear HB; have HB := n0_; clear n0_; (try clear hb); (try clear hb2); (try clear hk); (try clear hi)) | ((with_reducible refine gate_callee (f := 13) rfl ?_); refine goesL_ (some 103) rfl rfl Tryd.func13 (by kernel_rfl) rfl #[.int .i64 24, .bool false, .int .i64 t378, .int .i64 a2] rfl (by (try simp only [List.map_toArray, List.map_cons, List.map_nil]); first | done | rfl | (simp only [List.length_drop, List.length_take]; rfl)) ?_; (with_reducible refine (alu_Single.calls kj12 24 false t378 a2 t381 t382 t383 _ (hS.go (by repeat (first | (with_reducible first | exact HB.out | apply below_alloc | apply pw_below_drewN | apply below_drew1) | exact HB.out))) A24.out).mono ?_); rintro e w31 ⟨rfl, hb⟩; refine ⟨_, rfl, ?_⟩; have n0_ := Aside0.mk (below_step (by repeat (first | (with_reducible first | exact HB.out | apply below_alloc | apply pw_below_drewN | apply below_drew1) | exact HB.out)) hb); clear HB; have HB := n0_; clear n0_; (try clear hb); (try clear hb2); (try clear hk); (try clear hi)) | ((with_reducible refine gate_callee (f := 10) rfl ?_); refine goesL_ (some 111) rfl rfl Tryd.func10 (by kernel_rfl) rfl #[.int .i64 6, .bool false, .int .i64 a1, .int .i64 a0, .int .i64 a2] rfl (by (try simp only [List.map_toArray, List.map_cons, List.map_nil]); first | done | rfl | (simp only [List.length_drop, List.length_take]; rfl)) ?_; (with_reducible refine (alu_Double.calls 6 false a1 a0 a2 t384 t385 t386 _ (hS.go (by repeat (first | (with_reducible first | exact HB.out | apply below_alloc | apply pw_below_drewN | apply below_drew1) | exact HB.out))) A25.out).mono ?_); rintro e w32 ⟨rfl, hb⟩; refine ⟨_, rfl, ?_⟩; have n0_ := Aside0.mk (below_step (by repeat (first | (with_reducible first | exact HB.out | apply below_alloc | apply pw_below_drewN | apply below_drew1) | exact HB.out)) hb); clear HB; have HB := n0_; clear n0_; (try clear hb); (try clear hb2); (try clear hk); (try clear hi)) | ((with_reducible refine gate_callee (f := 10) rfl ?_); refine goesL_ (some 119) rfl rfl Tryd.func10 (by kernel_rfl) rfl #[.int .i64 7, .bool false, .int .i64 a1, .int .i64 t384, .int .i64 a2] rfl (by (try simp only [List.map_toArray, List.map_cons, List.map_nil]); first | done | rfl | (simp only [List.length_drop, List.length_take]; rfl)) ?_; (with_reducible refine (alu_Double.calls 7 false a1 t384 a2 t387 t388 t389 _ (hS.go (by repeat (first | (with_reducible first | exact HB.out | apply below_alloc | apply pw_below_drewN | apply below_drew1) | exact HB.out))) A26.out).mono ?_); rintro e w33 ⟨rfl, hb⟩; refine ⟨_, rfl, ?_⟩; have n0_ := Aside0.mk (below_step (by repeat (first | (with_reducible first | exact HB.out | apply below_alloc | apply pw_below_drewN | apply below_drew1) | exact HB.out)) hb); clear HB; have HB := n0_; clear n0_; (try clear hb); (try clear hb2); (try clear hk); (try clear hi)) | (go_at_call 12; (with_reducible refine (emulatorlaw10_alive.calls kj12  t390 _ (hS.go (by repeat (first | (with_reducible first | exact HB.out | apply below_alloc | apply pw_below_drewN | apply below_drew1) | exact HB.out))) A29.out).mono ?_); rintro e w34 ⟨rfl, hb⟩; have n0_ := Aside0.mk (below_step (by repeat (first | (with_reducible first | exact HB.out | apply below_alloc | apply pw_below_drewN | apply below_drew1) | exact HB.out)) hb); clear HB; have HB := n0_; clear n0_; (try clear hb); (try clear hb2); (try clear hk); (try clear hi)))
                go_ret
                exact ⟨by first | rfl | (simp [errW_none, errW_some] <;> rfl) | (simp [*, errW_none, errW_some] <;> rfl), by repeat (first | (with_reducible first | exact HB.out | apply below_alloc | apply pw_below_drewN | apply below_drew1) | exact HB.out)⟩
              · rw [if_neg c28] at H
                exact absurd (H.trans (congrArg some hr_.out)) (by decide)
            · rw [if_neg c27] at H
              exact absurd (H.trans (congrArg some hr_.out)) (by decide)

end Go.Proofs.YtfeflghimnbhiaaDoor.A
