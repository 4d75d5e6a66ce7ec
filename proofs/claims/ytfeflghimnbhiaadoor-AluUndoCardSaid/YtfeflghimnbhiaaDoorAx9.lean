-- Written by a program of this session (mp.py) over the kit's print.py, with proofs by hand for what the print does not take.
import Derived.Test.YtfeflghimnbhiaaDoorAx0
import Derived.Test.YtfeflghimnbhiaaDoorAx1
import Derived.Test.YtfeflghimnbhiaaDoorAx2
import Derived.Test.YtfeflghimnbhiaaDoorAx3
import Derived.Test.YtfeflghimnbhiaaDoorAx7
import Derived.Test.YtfeflghimnbhiaaDoorAx8
namespace Go.Proofs.YtfeflghimnbhiaaDoor.A
open Go.RowKit Go.Proofs.YtfeflghimnbhiaaDoorW.PrintWords Go.Proofs.YtfeflghimnbhiaaDoorW.PrintLast Go.Proofs.YtfeflghimnbhiaaDoorW.PrintMore
attribute [local go_sem] max2_int min2_int max_two min_two max_three min_three max_four min_four   -- for this text's walks alone
set_option linter.unusedVariables false
set_option linter.unusedSimpArgs false

/-! ### alu_Single: function 13 -/
mutual
def alu_Single.j0 : Nat → Int → Bool → Int → Int → Int → Option (Int × Int × Bool)
  | 0, _, _, _, _, _ => none
  | k + 1, x0, x1, x2, x3, x11 => if x0 = 12 then ((word_Flags.f 0 x1).bind fun t185 => (some (0, t185, (x0 != 19)))) else (if x0 = 19 then ((word_Flags.f x2 x1).bind fun t186 => (some (x2, t186, (x0 != 19)))) else (if x0 = 13 then ((alu_cut.f (Go.bits .xor .i64 (-1) x2) x1).bind fun t187 => ((word_Flags.f t187 x1).bind fun t188 => (some (t187, Go.bits .or .i64 t188 1, (x0 != 19))))) else (if x0 = 14 then ((word_Add.f x2 1 0 x1).bind fun bt203 => ((alu_kept.f bt203.1 bt203.2 x3).bind fun bt205 => (some (bt205.1, bt205.2, (x0 != 19))))) else (if x0 = 15 then ((word_Sub.f x2 1 0 x1).bind fun bt189 => ((alu_kept.f bt189.1 bt189.2 x3).bind fun bt191 => (some (bt191.1, bt191.2, (x0 != 19))))) else (if x0 = 16 then ((word_Sub.f 0 x2 0 x1).bind fun bt193 => (some (bt193.1, bt193.2, (x0 != 19)))) else (if x0 = 17 then ((word_Add.f x2 0 (Go.bits .and .i64 x3 1) x1).bind fun bt207 => (some (bt207.1, bt207.2, (x0 != 19)))) else (if x0 = 18 then ((word_Sub.f x2 0 (Go.bits .and .i64 x3 1) x1).bind fun bt195 => (some (bt195.1, bt195.2, (x0 != 19)))) else (if x0 = 20 then (alu_Single.j1 k x0 x1 x2 x3 x11 (Go.bits .and .i64 x3 1) x0 (x0 == 20)) else (alu_Single.j1 k x0 x1 x2 x3 x11 (Go.bits .and .i64 x3 1) x0 (x0 == 21))))))))))
def alu_Single.j1 : Nat → Int → Bool → Int → Int → Int → Int → Int → Bool → Option (Int × Int × Bool)
  | 0, _, _, _, _, _, _, _, _ => none
  | k + 1, x0, x1, x2, x3, x11, x12, x23, x40 => if x40 = true then ((word_Rotate.f x2 x12 (x0 == 21) x1).bind fun bt197 => (some (bt197.1, bt197.2, (x0 != 19)))) else (if x23 = 22 then ((alu_moved.f (Go.bits .or .i64 (x2 / 2) (Go.bits .and .i64 x2 x11)) (Go.bits .and .i64 x2 1) x1).bind fun t199 => (some (Go.bits .or .i64 (x2 / 2) (Go.bits .and .i64 x2 x11), t199, (x0 != 19)))) else (if x23 = 23 then ((alu_cut.f (wrap64 (x2 * 2)) x1).bind fun t209 => (if (Go.bits .and .i64 x2 x11) = 0 then ((alu_moved.f t209 0 x1).bind fun t210 => (some (t209, t210, (x0 != 19)))) else ((alu_moved.f t209 1 x1).bind fun t211 => (some (t209, t211, (x0 != 19)))))) else ((alu_wordOnly.f k x0 x1 x2 x3).bind fun bt200 => (some (bt200.1, bt200.2.1, bt200.2.2)))))
end
def alu_Single.f (k : Nat) (a0 : Int) (a1 : Bool) (a2 : Int) (a3 : Int) : Option (Int × Int × Bool) := (alu_cut.f a2 a1).bind fun t184 => (if a1 = true then (alu_Single.j0 k a0 a1 t184 a3 128) else (alu_Single.j0 k a0 a1 t184 a3 32768))
theorem alu_Single.mono_l : ∀ k, (∀ y0 y1 y2 y3 y4, LeO (alu_Single.j0 k y0 y1 y2 y3 y4) (alu_Single.j0 (k + 1) y0 y1 y2 y3 y4)) ∧ (∀ y0 y1 y2 y3 y4 y5 y6 y7, LeO (alu_Single.j1 k y0 y1 y2 y3 y4 y5 y6 y7) (alu_Single.j1 (k + 1) y0 y1 y2 y3 y4 y5 y6 y7))
  | 0 => ⟨fun _ _ _ _ _ r h => by simp [alu_Single.j0] at h, fun _ _ _ _ _ _ _ _ r h => by simp [alu_Single.j1] at h⟩
  | k + 1 => by
    obtain ⟨ih0, ih1⟩ := alu_Single.mono_l k
    refine ⟨?_, ?_⟩
    · intro y0 y1 y2 y3 y4
      unfold alu_Single.j0
      repeat' first
      | (with_reducible exact ih0 _ _ _ _ _)
      | (with_reducible exact ih1 _ _ _ _ _ _ _ _)
      | (with_reducible exact alu_wordOnly.mono _ _ _ _ _)
      | (with_reducible exact LeO.refl _)
      | (with_reducible exact LeO.none _)
      | (with_reducible refine LeO.ite ?_ ?_)
      | (with_reducible refine LeO.bind ?_ (fun _ => ?_))
      | exact ih0 _ _ _ _ _
      | exact ih1 _ _ _ _ _ _ _ _
      | exact alu_wordOnly.mono _ _ _ _ _
      | exact LeO.none _
      | refine LeO.ite ?_ ?_
      | refine LeO.bind ?_ (fun _ => ?_)
    · intro y0 y1 y2 y3 y4 y5 y6 y7
      unfold alu_Single.j1
      repeat' first
      | (with_reducible exact ih0 _ _ _ _ _)
      | (with_reducible exact ih1 _ _ _ _ _ _ _ _)
      | (with_reducible exact alu_wordOnly.mono _ _ _ _ _)
      | (with_reducible exact LeO.refl _)
      | (with_reducible exact LeO.none _)
      | (with_reducible refine LeO.ite ?_ ?_)
      | (with_reducible refine LeO.bind ?_ (fun _ => ?_))
      | exact ih0 _ _ _ _ _
      | exact ih1 _ _ _ _ _ _ _ _
      | exact alu_wordOnly.mono _ _ _ _ _
      | exact LeO.none _
      | refine LeO.ite ?_ ?_
      | refine LeO.bind ?_ (fun _ => ?_)
theorem alu_Single.mono : ∀ a0 a1 a2 a3 k, LeO (alu_Single.f k a0 a1 a2 a3) (alu_Single.f (k + 1) a0 a1 a2 a3) := by
  intro a0 a1 a2 a3 k
  obtain ⟨ih0, ih1⟩ := alu_Single.mono_l k
  unfold alu_Single.f
  repeat' first
      | (with_reducible exact ih0 _ _ _ _ _)
      | (with_reducible exact ih1 _ _ _ _ _ _ _ _)
      | (with_reducible exact alu_wordOnly.mono _ _ _ _ _)
      | (with_reducible exact LeO.refl _)
      | (with_reducible exact LeO.none _)
      | (with_reducible refine LeO.ite ?_ ?_)
      | (with_reducible refine LeO.bind ?_ (fun _ => ?_))
      | exact ih0 _ _ _ _ _
      | exact ih1 _ _ _ _ _ _ _ _
      | exact alu_wordOnly.mono _ _ _ _ _
      | exact LeO.none _
      | refine LeO.ite ?_ ?_
      | refine LeO.bind ?_ (fun _ => ?_)
set_option maxHeartbeats 8000000 in
set_option maxRecDepth 100000 in
theorem alu_Single.calls (k : Nat) (a0 : Int) (a1 : Bool) (a2 : Int) (a3 : Int) (r1 : Int) (r2 : Int) (r3 : Bool) (w : World) (hS : Sz w) (h : alu_Single.f k a0 a1 a2 a3 = some (r1, r2, r3)) :
    Calls Tryd.prog 13 #[.int .i64 a0, .bool a1, .int .i64 a2, .int .i64 a3] w fun e w' => e = .returned (.tuple #[.int .i64 r1, .int .i64 r2, .bool r3]) ∧ Below w.heap.size w w' := by
  have HB := Aside0.mk (Below.refl w.heap.size w)
  have H : ((alu_cut.f a2 a1).bind fun t184 => (if a1 = true then (alu_Single.j0 k a0 a1 t184 a3 128) else (alu_Single.j0 k a0 a1 t184 a3 32768))) = some (r1, r2, r3) := h
  clear h
  replace H := Option.bind_eq_some_iff.mp H
  obtain ⟨t184, A50, H⟩ := H
  replace H : (if a1 = true then (alu_Single.j0 k a0 a1 t184 a3 128) else (alu_Single.j0 k a0 a1 t184 a3 32768)) = some (r1, r2, r3) := H
  have A5 := Aside0.mk A50
  clear A50
  have HC6 := Aside0.mk H
  clear H
  go_enter Tryd.func13, Tryd.ntmps13
  go_upto_if 19 with (first | ((with_reducible refine gate_callee (f := 26) rfl ?_); refine goesL_ (some 18) rfl rfl Tryd.func26 (by kernel_rfl) rfl #[.int .i64 a2, .bool a1] rfl (by (try simp only [List.map_toArray, List.map_cons, List.map_nil]); first | done | rfl | (simp only [List.length_drop, List.length_take]; rfl)) ?_; (with_reducible refine (alu_cut.calls a2 a1 t184 _ A5.out).mono ?_); rintro e w' ⟨rfl, ⟨nd, rfl⟩⟩; refine ⟨_, rfl, ?_⟩))
  (try simp only [Act.put, List.setIfInBounds_toArray, List.set_cons_zero, List.set_cons_succ])
  go_cut [11] (fun v11 wc => ∃ (kq : Nat) (x11_5 : Int), v11 = .int .i64 x11_5 ∧ Aside0 (alu_Single.j0 kq a0 a1 t184 a3 x11_5 = some (r1, r2, r3)) ∧ Aside0 (kq ≤ k) ∧ Aside0 (Below w.heap.size w wc))
  case first =>
    have H := HC6.out
    clear HC6
    by_cases c7 : a1 = true
    · subst c7
      have H1 : (alu_Single.j0 k a0 true t184 a3 128) = some (r1, r2, r3) := by rw [if_pos rfl] at H; exact H
      clear H
      have H := H1
      clear H1
      have H' := Aside0.mk H
      clear H
      go_wp2
      go_meet
      case rel => exact ⟨_, (128), (by first | rfl | (simp; done) | (simp [*]; done)), H', ⟨by first | omega | exact Nat.le_refl _⟩, ⟨by repeat (first | (with_reducible first | exact HB.out | apply below_alloc | apply pw_below_drewN | apply below_drew1) | exact HB.out)⟩⟩
    · replace c7 := Bool.eq_false_iff.mpr c7
      subst c7
      have H1 : (alu_Single.j0 k a0 false t184 a3 32768) = some (r1, r2, r3) := by rw [if_neg (show ¬ (false = true) by decide)] at H; exact H
      clear H
      have H := H1
      clear H1
      have H' := Aside0.mk H
      clear H
      go_wp2
      go_meet
      case rel => exact ⟨_, (32768), (by first | rfl | (simp; done) | (simp [*]; done)), H', ⟨by first | omega | exact Nat.le_refl _⟩, ⟨by repeat (first | (with_reducible first | exact HB.out | apply below_alloc | apply pw_below_drewN | apply below_drew1) | exact HB.out)⟩⟩
  case rest =>
    clear HC6
    try clear c1
    try clear c2
    try clear p2
    try clear c7
    obtain ⟨kq, x11_5, rfl, HA, HJ5, HB⟩ := hcut
    cases kq with
    | zero => exact absurd HA.out (by simp [alu_Single.j0])
    | succ kj5 =>
      have H := HA.out
      clear HA
      simp only [alu_Single.j0] at H
      by_cases c8 : a0 = 12
      · rw [if_pos c8] at H
        have c8b0 : (a0 == 12) = true := beq_iff_eq.mpr c8
        have c8b1 : (a0 != 12) = false := bne_eq_false_iff_eq.mpr c8
        clear c8
        replace H := Option.bind_eq_some_iff.mp H
        obtain ⟨t185, A90, H⟩ := H
        replace H : (some (0, t185, (a0 != 19))) = some (r1, r2, r3) := H
        have A9 := Aside0.mk A90
        clear A90
        simp only [Option.some.injEq, Prod.mk.injEq] at H
        obtain ⟨rfl, rfl, rfl⟩ := H
        go_wp2_with (first | ((with_reducible refine gate_callee (f := 27) rfl ?_); refine goesL_ (some 49) rfl rfl Tryd.func27 (by kernel_rfl) rfl #[.int .i64 0, .bool a1] rfl (by (try simp only [List.map_toArray, List.map_cons, List.map_nil]); first | done | rfl | (simp only [List.length_drop, List.length_take]; rfl)) ?_; (with_reducible refine (word_Flags.calls 0 a1 t185 _ (hS.go (by repeat (first | (with_reducible first | exact HB.out | apply below_alloc | apply pw_below_drewN | apply below_drew1) | exact HB.out))) A9.out).mono ?_); rintro e w10 ⟨rfl, hb⟩; refine ⟨_, rfl, ?_⟩; have n0_ := Aside0.mk (below_step (by repeat (first | (with_reducible first | exact HB.out | apply below_alloc | apply pw_below_drewN | apply below_drew1) | exact HB.out)) hb); clear HB; have HB := n0_; clear n0_; (try clear hb); (try clear hb2); (try clear hk); (try clear hi)))
        go_ret3
        exact ⟨by first | rfl | (simp [errW_none, errW_some] <;> rfl) | (simp [*, errW_none, errW_some] <;> rfl), by repeat (first | (with_reducible first | exact HB.out | apply below_alloc | apply pw_below_drewN | apply below_drew1) | exact HB.out)⟩
      · rw [if_neg c8] at H
        have c8b0 : (a0 == 12) = false := beq_eq_false_iff_ne.mpr c8
        have c8b1 : (a0 != 12) = true := bne_iff_ne.mpr c8
        by_cases c11 : a0 = 19
        · rw [if_pos c11] at H
          have c11b0 : (a0 == 19) = true := beq_iff_eq.mpr c11
          have c11b1 : (a0 != 19) = false := bne_eq_false_iff_eq.mpr c11
          clear c11
          replace H := Option.bind_eq_some_iff.mp H
          obtain ⟨t186, A120, H⟩ := H
          replace H : (some (t184, t186, (a0 != 19))) = some (r1, r2, r3) := H
          have A12 := Aside0.mk A120
          clear A120
          simp only [Option.some.injEq, Prod.mk.injEq] at H
          obtain ⟨rfl, rfl, rfl⟩ := H
          go_wp2_with (first | ((with_reducible refine gate_callee (f := 27) rfl ?_); refine goesL_ (some 49) rfl rfl Tryd.func27 (by kernel_rfl) rfl #[.int .i64 t184, .bool a1] rfl (by (try simp only [List.map_toArray, List.map_cons, List.map_nil]); first | done | rfl | (simp only [List.length_drop, List.length_take]; rfl)) ?_; (with_reducible refine (word_Flags.calls t184 a1 t186 _ (hS.go (by repeat (first | (with_reducible first | exact HB.out | apply below_alloc | apply pw_below_drewN | apply below_drew1) | exact HB.out))) A12.out).mono ?_); rintro e w13 ⟨rfl, hb⟩; refine ⟨_, rfl, ?_⟩; have n0_ := Aside0.mk (below_step (by repeat (first | (with_reducible first | exact HB.out | apply below_alloc | apply pw_below_drewN | apply below_drew1) | exact HB.out)) hb); clear HB; have HB := n0_; clear n0_; (try clear hb); (try clear hb2); (try clear hk); (try clear hi)))
          go_ret3
          exact ⟨by first | rfl | (simp [errW_none, errW_some] <;> rfl) | (simp [*, errW_none, errW_some] <;> rfl), by repeat (first | (with_reducible first | exact HB.out | apply below_alloc | apply pw_below_drewN | apply below_drew1) | exact HB.out)⟩
        · rw [if_neg c11] at H
          have c11b0 : (a0 == 19) = false := beq_eq_false_iff_ne.mpr c11
          have c11b1 : (a0 != 19) = true := bne_iff_ne.mpr c11
          by_cases c14 : a0 = 13
          · rw [if_pos c14] at H
            have c14b0 : (a0 == 13) = true := beq_iff_eq.mpr c14
            have c14b1 : (a0 != 13) = false := bne_eq_false_iff_eq.mpr c14
            clear c14
            replace H := Option.bind_eq_some_iff.mp H
            obtain ⟨t187, A150, H⟩ := H
            replace H : ((word_Flags.f t187 a1).bind fun t188 => (some (t187, Go.bits .or .i64 t188 1, (a0 != 19)))) = some (r1, r2, r3) := H
            have A15 := Aside0.mk A150
            clear A150
            replace H := Option.bind_eq_some_iff.mp H
            obtain ⟨t188, A160, H⟩ := H
            replace H : (some (t187, Go.bits .or .i64 t188 1, (a0 != 19))) = some (r1, r2, r3) := H
            have A16 := Aside0.mk A160
            clear A160
            simp only [Option.some.injEq, Prod.mk.injEq] at H
            obtain ⟨rfl, rfl, rfl⟩ := H
            go_wp2_with (first | ((with_reducible refine gate_callee (f := 26) rfl ?_); refine goesL_ (some 53) rfl rfl Tryd.func26 (by kernel_rfl) rfl #[.int .i64 (Go.bits .xor .i64 (-1) t184), .bool a1] rfl (by (try simp only [List.map_toArray, List.map_cons, List.map_nil]); first | done | rfl | (simp only [List.length_drop, List.length_take]; rfl)) ?_; (with_reducible refine (alu_cut.calls (Go.bits .xor .i64 (-1) t184) a1 t187 _ A15.out).mono ?_); rintro e w' ⟨rfl, ⟨nd, rfl⟩⟩; refine ⟨_, rfl, ?_⟩) | ((with_reducible refine gate_callee (f := 27) rfl ?_); refine goesL_ (some 56) rfl rfl Tryd.func27 (by kernel_rfl) rfl #[.int .i64 t187, .bool a1] rfl (by (try simp only [List.map_toArray, List.map_cons, List.map_nil]); first | done | rfl | (simp only [List.length_drop, List.length_take]; rfl)) ?_; (with_reducible refine (word_Flags.calls t187 a1 t188 _ (hS.go (by repeat (first | (with_reducible first | exact HB.out | apply below_alloc | apply pw_below_drewN | apply below_drew1) | exact HB.out))) A16.out).mono ?_); rintro e w17 ⟨rfl, hb⟩; refine ⟨_, rfl, ?_⟩; have n0_ := Aside0.mk (below_step (by repeat (first | (with_reducible first | exact HB.out | apply below_alloc | apply pw_below_drewN | apply below_drew1) | exact HB.out)) hb); clear HB; have HB := n0_; clear n0_; (try clear hb); (try clear hb2); (try clear hk); (try clear hi)))
            go_ret3
            exact ⟨by first | rfl | (simp [errW_none, errW_some] <;> rfl) | (simp [*, errW_none, errW_some] <;> rfl), by repeat (first | (with_reducible first | exact HB.out | apply below_alloc | apply pw_below_drewN | apply below_drew1) | exact HB.out)⟩
          · rw [if_neg c14] at H
            have c14b0 : (a0 == 13) = false := beq_eq_false_iff_ne.mpr c14
            have c14b1 : (a0 != 13) = true := bne_iff_ne.mpr c14
            by_cases c18 : a0 = 14
            · rw [if_pos c18] at H
              have c18b0 : (a0 == 14) = true := beq_iff_eq.mpr c18
              have c18b1 : (a0 != 14) = false := bne_eq_false_iff_eq.mpr c18
              clear c18
              replace H := Option.bind_eq_some_iff.mp H
              obtain ⟨⟨t203, t204⟩, A190, H⟩ := H
              replace H : ((alu_kept.f t203 t204 a3).bind fun bt205 => (some (bt205.1, bt205.2, (a0 != 19)))) = some (r1, r2, r3) := H
              have A19 := Aside0.mk A190
              clear A190
              replace H := Option.bind_eq_some_iff.mp H
              obtain ⟨⟨t205, t206⟩, A200, H⟩ := H
              replace H : (some (t205, t206, (a0 != 19))) = some (r1, r2, r3) := H
              have A20 := Aside0.mk A200
              clear A200
              simp only [Option.some.injEq, Prod.mk.injEq] at H
              obtain ⟨rfl, rfl, rfl⟩ := H
              go_wp2_with (first | ((with_reducible refine gate_callee (f := 28) rfl ?_); refine goesL_ (some 61) rfl rfl Tryd.func28 (by kernel_rfl) rfl #[.int .i64 t184, .int .i64 1, .int .i64 0, .bool a1] rfl (by (try simp only [List.map_toArray, List.map_cons, List.map_nil]); first | done | rfl | (simp only [List.length_drop, List.length_take]; rfl)) ?_; (with_reducible refine (word_Add.calls t184 1 0 a1 t203 t204 _ (hS.go (by repeat (first | (with_reducible first | exact HB.out | apply below_alloc | apply pw_below_drewN | apply below_drew1) | exact HB.out))) A19.out).mono ?_); rintro e w21 ⟨rfl, hb⟩; refine ⟨_, rfl, ?_⟩; have n0_ := Aside0.mk (below_step (by repeat (first | (with_reducible first | exact HB.out | apply below_alloc | apply pw_below_drewN | apply below_drew1) | exact HB.out)) hb); clear HB; have HB := n0_; clear n0_; (try clear hb); (try clear hb2); (try clear hk); (try clear hi)) | ((with_reducible refine gate_callee (f := 29) rfl ?_); refine goesL_ (some 68) rfl rfl Tryd.func29 (by kernel_rfl) rfl #[.int .i64 t203, .int .i64 t204, .int .i64 a3] rfl (by (try simp only [List.map_toArray, List.map_cons, List.map_nil]); first | done | rfl | (simp only [List.length_drop, List.length_take]; rfl)) ?_; (with_reducible refine (alu_kept.calls t203 t204 a3 t205 t206 _ A20.out).mono ?_); rintro e w' ⟨rfl, ⟨nd, rfl⟩⟩; refine ⟨_, rfl, ?_⟩))
              go_ret3
              exact ⟨by first | rfl | (simp [errW_none, errW_some] <;> rfl) | (simp [*, errW_none, errW_some] <;> rfl), by repeat (first | (with_reducible first | exact HB.out | apply below_alloc | apply pw_below_drewN | apply below_drew1) | exact HB.out)⟩
            · rw [if_neg c18] at H
              have c18b0 : (a0 == 14) = false := beq_eq_false_iff_ne.mpr c18
              have c18b1 : (a0 != 14) = true := bne_iff_ne.mpr c18
              by_cases c22 : a0 = 15
              · rw [if_pos c22] at H
                have c22b0 : (a0 == 15) = true := beq_iff_eq.mpr c22
                have c22b1 : (a0 != 15) = false := bne_eq_false_iff_eq.mpr c22
                clear c22
                replace H := Option.bind_eq_some_iff.mp H
                obtain ⟨⟨t189, t190⟩, A230, H⟩ := H
                replace H : ((alu_kept.f t189 t190 a3).bind fun bt191 => (some (bt191.1, bt191.2, (a0 != 19)))) = some (r1, r2, r3) := H
                have A23 := Aside0.mk A230
                clear A230
                replace H := Option.bind_eq_some_iff.mp H
                obtain ⟨⟨t191, t192⟩, A240, H⟩ := H
                replace H : (some (t191, t192, (a0 != 19))) = some (r1, r2, r3) := H
                have A24 := Aside0.mk A240
                clear A240
                simp only [Option.some.injEq, Prod.mk.injEq] at H
                obtain ⟨rfl, rfl, rfl⟩ := H
                go_wp2_with (first | ((with_reducible refine gate_callee (f := 20) rfl ?_); refine goesL_ (some 74) rfl rfl Tryd.func20 (by kernel_rfl) rfl #[.int .i64 t184, .int .i64 1, .int .i64 0, .bool a1] rfl (by (try simp only [List.map_toArray, List.map_cons, List.map_nil]); first | done | rfl | (simp only [List.length_drop, List.length_take]; rfl)) ?_; (with_reducible refine (word_Sub.calls t184 1 0 a1 t189 t190 _ (hS.go (by repeat (first | (with_reducible first | exact HB.out | apply below_alloc | apply pw_below_drewN | apply below_drew1) | exact HB.out))) A23.out).mono ?_); rintro e w25 ⟨rfl, hb⟩; refine ⟨_, rfl, ?_⟩; have n0_ := Aside0.mk (below_step (by repeat (first | (with_reducible first | exact HB.out | apply below_alloc | apply pw_below_drewN | apply below_drew1) | exact HB.out)) hb); clear HB; have HB := n0_; clear n0_; (try clear hb); (try clear hb2); (try clear hk); (try clear hi)) | ((with_reducible refine gate_callee (f := 29) rfl ?_); refine goesL_ (some 81) rfl rfl Tryd.func29 (by kernel_rfl) rfl #[.int .i64 t189, .int .i64 t190, .int .i64 a3] rfl (by (try simp only [List.map_toArray, List.map_cons, List.map_nil]); first | done | rfl | (simp only [List.length_drop, List.length_take]; rfl)) ?_; (with_reducible refine (alu_kept.calls t189 t190 a3 t191 t192 _ A24.out).mono ?_); rintro e w' ⟨rfl, ⟨nd, rfl⟩⟩; refine ⟨_, rfl, ?_⟩))
                go_ret3
                exact ⟨by first | rfl | (simp [errW_none, errW_some] <;> rfl) | (simp [*, errW_none, errW_some] <;> rfl), by repeat (first | (with_reducible first | exact HB.out | apply below_alloc | apply pw_below_drewN | apply below_drew1) | exact HB.out)⟩
              · rw [if_neg c22] at H
                have c22b0 : (a0 == 15) = false := beq_eq_false_iff_ne.mpr c22
                have c22b1 : (a0 != 15) = true := bne_iff_ne.mpr c22
                by_cases c26 : a0 = 16
                · rw [if_pos c26] at H
                  have c26b0 : (a0 == 16) = true := beq_iff_eq.mpr c26
                  have c26b1 : (a0 != 16) = false := bne_eq_false_iff_eq.mpr c26
                  clear c26
                  replace H := Option.bind_eq_some_iff.mp H
                  obtain ⟨⟨t193, t194⟩, A270, H⟩ := H
                  replace H : (some (t193, t194, (a0 != 19))) = some (r1, r2, r3) := H
                  have A27 := Aside0.mk A270
                  clear A270
                  simp only [Option.some.injEq, Prod.mk.injEq] at H
                  obtain ⟨rfl, rfl, rfl⟩ := H
                  go_wp2_with (first | ((with_reducible refine gate_callee (f := 20) rfl ?_); refine goesL_ (some 87) rfl rfl Tryd.func20 (by kernel_rfl) rfl #[.int .i64 0, .int .i64 t184, .int .i64 0, .bool a1] rfl (by (try simp only [List.map_toArray, List.map_cons, List.map_nil]); first | done | rfl | (simp only [List.length_drop, List.length_take]; rfl)) ?_; (with_reducible refine (word_Sub.calls 0 t184 0 a1 t193 t194 _ (hS.go (by repeat (first | (with_reducible first | exact HB.out | apply below_alloc | apply pw_below_drewN | apply below_drew1) | exact HB.out))) A27.out).mono ?_); rintro e w28 ⟨rfl, hb⟩; refine ⟨_, rfl, ?_⟩; have n0_ := Aside0.mk (below_step (by repeat (first | (with_reducible first | exact HB.out | apply below_alloc | apply pw_below_drewN | apply below_drew1) | exact HB.out)) hb); clear HB; have HB := n0_; clear n0_; (try clear hb); (try clear hb2); (try clear hk); (try clear hi)))
                  go_ret3
                  exact ⟨by first | rfl | (simp [errW_none, errW_some] <;> rfl) | (simp [*, errW_none, errW_some] <;> rfl), by repeat (first | (with_reducible first | exact HB.out | apply below_alloc | apply pw_below_drewN | apply below_drew1) | exact HB.out)⟩
                · rw [if_neg c26] at H
                  have c26b0 : (a0 == 16) = false := beq_eq_false_iff_ne.mpr c26
                  have c26b1 : (a0 != 16) = true := bne_iff_ne.mpr c26
                  by_cases c29 : a0 = 17
                  · rw [if_pos c29] at H
                    have c29b0 : (a0 == 17) = true := beq_iff_eq.mpr c29
                    have c29b1 : (a0 != 17) = false := bne_eq_false_iff_eq.mpr c29
                    clear c29
                    replace H := Option.bind_eq_some_iff.mp H
                    obtain ⟨⟨t207, t208⟩, A300, H⟩ := H
                    replace H : (some (t207, t208, (a0 != 19))) = some (r1, r2, r3) := H
                    have A30 := Aside0.mk A300
                    clear A300
                    simp only [Option.some.injEq, Prod.mk.injEq] at H
                    obtain ⟨rfl, rfl, rfl⟩ := H
                    go_wp2_with (first | ((with_reducible refine gate_callee (f := 28) rfl ?_); refine goesL_ (some 94) rfl rfl Tryd.func28 (by kernel_rfl) rfl #[.int .i64 t184, .int .i64 0, .int .i64 (Go.bits .and .i64 a3 1), .bool a1] rfl (by (try simp only [List.map_toArray, List.map_cons, List.map_nil]); first | done | rfl | (simp only [List.length_drop, List.length_take]; rfl)) ?_; (with_reducible refine (word_Add.calls t184 0 (Go.bits .and .i64 a3 1) a1 t207 t208 _ (hS.go (by repeat (first | (with_reducible first | exact HB.out | apply below_alloc | apply pw_below_drewN | apply below_drew1) | exact HB.out))) A30.out).mono ?_); rintro e w31 ⟨rfl, hb⟩; refine ⟨_, rfl, ?_⟩; have n0_ := Aside0.mk (below_step (by repeat (first | (with_reducible first | exact HB.out | apply below_alloc | apply pw_below_drewN | apply below_drew1) | exact HB.out)) hb); clear HB; have HB := n0_; clear n0_; (try clear hb); (try clear hb2); (try clear hk); (try clear hi)))
                    go_ret3
                    exact ⟨by first | rfl | (simp [errW_none, errW_some] <;> rfl) | (simp [*, errW_none, errW_some] <;> rfl), by repeat (first | (with_reducible first | exact HB.out | apply below_alloc | apply pw_below_drewN | apply below_drew1) | exact HB.out)⟩
                  · rw [if_neg c29] at H
                    have c29b0 : (a0 == 17) = false := beq_eq_false_iff_ne.mpr c29
                    have c29b1 : (a0 != 17) = true := bne_iff_ne.mpr c29
                    by_cases c32 : a0 = 18
                    · rw [if_pos c32] at H
                      have c32b0 : (a0 == 18) = true := beq_iff_eq.mpr c32
                      have c32b1 : (a0 != 18) = false := bne_eq_false_iff_eq.mpr c32
                      clear c32
                      replace H := Option.bind_eq_some_iff.mp H
                      obtain ⟨⟨t195, t196⟩, A330, H⟩ := H
                      replace H : (some (t195, t196, (a0 != 19))) = some (r1, r2, r3) := H
                      have A33 := Aside0.mk A330
                      clear A330
                      simp only [Option.some.injEq, Prod.mk.injEq] at H
                      obtain ⟨rfl, rfl, rfl⟩ := H
                      go_wp2_with (first | ((with_reducible refine gate_callee (f := 20) rfl ?_); refine goesL_ (some 101) rfl rfl Tryd.func20 (by kernel_rfl) rfl #[.int .i64 t184, .int .i64 0, .int .i64 (Go.bits .and .i64 a3 1), .bool a1] rfl (by (try simp only [List.map_toArray, List.map_cons, List.map_nil]); first | done | rfl | (simp only [List.length_drop, List.length_take]; rfl)) ?_; (with_reducible refine (word_Sub.calls t184 0 (Go.bits .and .i64 a3 1) a1 t195 t196 _ (hS.go (by repeat (first | (with_reducible first | exact HB.out | apply below_alloc | apply pw_below_drewN | apply below_drew1) | exact HB.out))) A33.out).mono ?_); rintro e w34 ⟨rfl, hb⟩; refine ⟨_, rfl, ?_⟩; have n0_ := Aside0.mk (below_step (by repeat (first | (with_reducible first | exact HB.out | apply below_alloc | apply pw_below_drewN | apply below_drew1) | exact HB.out)) hb); clear HB; have HB := n0_; clear n0_; (try clear hb); (try clear hb2); (try clear hk); (try clear hi)))
                      go_ret3
                      exact ⟨by first | rfl | (simp [errW_none, errW_some] <;> rfl) | (simp [*, errW_none, errW_some] <;> rfl), by repeat (first | (with_reducible first | exact HB.out | apply below_alloc | apply pw_below_drewN | apply below_drew1) | exact HB.out)⟩
                    · rw [if_neg c32] at H
                      have c32b0 : (a0 == 18) = false := beq_eq_false_iff_ne.mpr c32
                      have c32b1 : (a0 != 18) = true := bne_iff_ne.mpr c32
                      have HC35 := Aside0.mk H
                      clear H
                      go_upto_if 40 with (fail)
                      go_cut [40] (fun v40 wc => ∃ (kq : Nat) (x40_34 : Bool), v40 = .bool x40_34 ∧ Aside0 (alu_Single.j1 kq a0 a1 t184 a3 x11_5 (Go.bits .and .i64 a3 1) a0 x40_34 = some (r1, r2, r3)) ∧ Aside0 (kq ≤ kj5) ∧ Aside0 (Below w.heap.size w wc))
                      case first =>
                        have H := HC35.out
                        clear HC35
                        by_cases c36 : a0 = 20
                        · rw [if_pos c36] at H
                          have c36b0 : (a0 == 20) = true := beq_iff_eq.mpr c36
                          have c36b1 : (a0 != 20) = false := bne_eq_false_iff_eq.mpr c36
                          clear c36
                          (first | rw [c36b0] | (simp only [i64_w, i32_w]; rw [c36b0]) | skip)
                          have H' := Aside0.mk H
                          clear H
                          go_wp2
                          go_meet
                          case rel => exact ⟨_, ((a0 == 20)), (by first | rfl | (simp; done) | (simp [*]; done)), H', ⟨by have := HJ5.out; first | omega | exact Nat.le_refl _⟩, ⟨by repeat (first | (with_reducible first | exact HB.out | apply below_alloc | apply pw_below_drewN | apply below_drew1) | exact HB.out)⟩⟩
                        · rw [if_neg c36] at H
                          have c36b0 : (a0 == 20) = false := beq_eq_false_iff_ne.mpr c36
                          have c36b1 : (a0 != 20) = true := bne_iff_ne.mpr c36
                          (first | rw [c36b0] | (simp only [i64_w, i32_w]; rw [c36b0]) | skip)
                          have H' := Aside0.mk H
                          clear H
                          go_wp2
                          go_meet
                          case rel => exact ⟨_, ((a0 == 21)), (by first | rfl | (simp; done) | (simp [*]; done)), H', ⟨by have := HJ5.out; first | omega | exact Nat.le_refl _⟩, ⟨by repeat (first | (with_reducible first | exact HB.out | apply below_alloc | apply pw_below_drewN | apply below_drew1) | exact HB.out)⟩⟩
                      case rest =>
                        clear HC35
                        try clear c1
                        try clear c2
                        try clear p2
                        try clear c3
                        try clear c7
                        try clear c8
                        try clear c8b0
                        try clear c8b1
                        try clear c11
                        try clear c11b0
                        try clear c11b1
                        try clear c13
                        try clear c14
                        try clear c14b0
                        try clear c14b1
                        try clear c18
                        try clear c18b0
                        try clear c18b1
                        try clear c20
                        try clear c22
                        try clear c22b0
                        try clear c22b1
                        try clear c26
                        try clear c26b0
                        try clear c26b1
                        try clear c27
                        try clear c28
                        try clear c29
                        try clear c29b0
                        try clear c29b1
                        try clear c32
                        try clear c32b0
                        try clear c32b1
                        try clear c36
                        try clear c36b0
                        try clear c36b1
                        try clear p2
                        obtain ⟨kq, x40_34, rfl, HA, HJ34, HB⟩ := hcut
                        cases kq with
                        | zero => exact absurd HA.out (by simp [alu_Single.j1])
                        | succ kj34 =>
                          have H := HA.out
                          clear HA
                          simp only [alu_Single.j1] at H
                          by_cases c37 : x40_34 = true
                          · subst c37
                            have H1 : ((word_Rotate.f t184 (Go.bits .and .i64 a3 1) (a0 == 21) a1).bind fun bt197 => (some (bt197.1, bt197.2, (a0 != 19)))) = some (r1, r2, r3) := by rw [if_pos rfl] at H; exact H
                            clear H
                            have H := H1
                            clear H1
                            replace H := Option.bind_eq_some_iff.mp H
                            obtain ⟨⟨t197, t198⟩, A380, H⟩ := H
                            replace H : (some (t197, t198, (a0 != 19))) = some (r1, r2, r3) := H
                            have A38 := Aside0.mk A380
                            clear A380
                            simp only [Option.some.injEq, Prod.mk.injEq] at H
                            obtain ⟨rfl, rfl, rfl⟩ := H
                            go_wp2_with (first | ((with_reducible refine gate_callee (f := 30) rfl ?_); refine goesL_ (some 110) rfl rfl Tryd.func30 (by kernel_rfl) rfl #[.int .i64 t184, .int .i64 (Go.bits .and .i64 a3 1), .bool (a0 == 21), .bool a1] rfl (by (try simp only [List.map_toArray, List.map_cons, List.map_nil]); first | done | rfl | (simp only [List.length_drop, List.length_take]; rfl)) ?_; (with_reducible refine (word_Rotate.calls t184 (Go.bits .and .i64 a3 1) (a0 == 21) a1 t197 t198 _ (hS.go (by repeat (first | (with_reducible first | exact HB.out | apply below_alloc | apply pw_below_drewN | apply below_drew1) | exact HB.out))) A38.out).mono ?_); rintro e w39 ⟨rfl, hb⟩; refine ⟨_, rfl, ?_⟩; have n0_ := Aside0.mk (below_step (by repeat (first | (with_reducible first | exact HB.out | apply below_alloc | apply pw_below_drewN | apply below_drew1) | exact HB.out)) hb); clear HB; have HB := n0_; clear n0_; (try clear hb); (try clear hb2); (try clear hk); (try clear hi)))
                            go_ret3
                            exact ⟨by first | rfl | (simp [errW_none, errW_some] <;> rfl) | (simp [*, errW_none, errW_some] <;> rfl), by repeat (first | (with_reducible first | exact HB.out | apply below_alloc | apply pw_below_drewN | apply below_drew1) | exact HB.out)⟩
                          · replace c37 := Bool.eq_false_iff.mpr c37
                            subst c37
                            have H1 : (if a0 = 22 then ((alu_moved.f (Go.bits .or .i64 (t184 / 2) (Go.bits .and .i64 t184 x11_5)) (Go.bits .and .i64 t184 1) a1).bind fun t199 => (some (Go.bits .or .i64 (t184 / 2) (Go.bits .and .i64 t184 x11_5), t199, (a0 != 19)))) else (if a0 = 23 then ((alu_cut.f (wrap64 (t184 * 2)) a1).bind fun t209 => (if (Go.bits .and .i64 t184 x11_5) = 0 then ((alu_moved.f t209 0 a1).bind fun t210 => (some (t209, t210, (a0 != 19)))) else ((alu_moved.f t209 1 a1).bind fun t211 => (some (t209, t211, (a0 != 19)))))) else ((alu_wordOnly.f kj34 a0 a1 t184 a3).bind fun bt200 => (some (bt200.1, bt200.2.1, bt200.2.2))))) = some (r1, r2, r3) := by rw [if_neg (show ¬ (false = true) by decide)] at H; exact H
                            clear H
                            have H := H1
                            clear H1
                            by_cases c40 : a0 = 22
                            · rw [if_pos c40] at H
                              have c40b0 : (a0 == 22) = true := beq_iff_eq.mpr c40
                              have c40b1 : (a0 != 22) = false := bne_eq_false_iff_eq.mpr c40
                              clear c40
                              replace H := Option.bind_eq_some_iff.mp H
                              obtain ⟨t199, A410, H⟩ := H
                              replace H : (some (Go.bits .or .i64 (t184 / 2) (Go.bits .and .i64 t184 x11_5), t199, (a0 != 19))) = some (r1, r2, r3) := H
                              have A41 := Aside0.mk A410
                              clear A410
                              simp only [Option.some.injEq, Prod.mk.injEq] at H
                              obtain ⟨rfl, rfl, rfl⟩ := H
                              go_wp2_with (first | ((with_reducible refine gate_callee (f := 31) rfl ?_); refine goesL_ (some 123) rfl rfl Tryd.func31 (by kernel_rfl) rfl #[.int .i64 (Go.bits .or .i64 (t184 / 2) (Go.bits .and .i64 t184 x11_5)), .int .i64 (Go.bits .and .i64 t184 1), .bool a1] rfl (by (try simp only [List.map_toArray, List.map_cons, List.map_nil]); first | done | rfl | (simp only [List.length_drop, List.length_take]; rfl)) ?_; (with_reducible refine (alu_moved.calls (Go.bits .or .i64 (t184 / 2) (Go.bits .and .i64 t184 x11_5)) (Go.bits .and .i64 t184 1) a1 t199 _ (hS.go (by repeat (first | (with_reducible first | exact HB.out | apply below_alloc | apply pw_below_drewN | apply below_drew1) | exact HB.out))) A41.out).mono ?_); rintro e w42 ⟨rfl, hb⟩; refine ⟨_, rfl, ?_⟩; have n0_ := Aside0.mk (below_step (by repeat (first | (with_reducible first | exact HB.out | apply below_alloc | apply pw_below_drewN | apply below_drew1) | exact HB.out)) hb); clear HB; have HB := n0_; clear n0_; (try clear hb); (try clear hb2); (try clear hk); (try clear hi)))
                              go_ret3
                              exact ⟨by first | rfl | (simp [errW_none, errW_some] <;> rfl) | (simp [*, errW_none, errW_some] <;> rfl), by repeat (first | (with_reducible first | exact HB.out | apply below_alloc | apply pw_below_drewN | apply below_drew1) | exact HB.out)⟩
                            · rw [if_neg c40] at H
                              have c40b0 : (a0 == 22) = false := beq_eq_false_iff_ne.mpr c40
                              have c40b1 : (a0 != 22) = true := bne_iff_ne.mpr c40
                              by_cases c43 : a0 = 23
                              · rw [if_pos c43] at H
                                have c43b0 : (a0 == 23) = true := beq_iff_eq.mpr c43
                                have c43b1 : (a0 != 23) = false := bne_eq_false_iff_eq.mpr c43
                                clear c43
                                replace H := Option.bind_eq_some_iff.mp H
                                obtain ⟨t209, A440, H⟩ := H
                                replace H : (if (Go.bits .and .i64 t184 x11_5) = 0 then ((alu_moved.f t209 0 a1).bind fun t210 => (some (t209, t210, (a0 != 19)))) else ((alu_moved.f t209 1 a1).bind fun t211 => (some (t209, t211, (a0 != 19))))) = some (r1, r2, r3) := H
                                have A44 := Aside0.mk A440
                                clear A440
                                by_cases c45 : (Go.bits .and .i64 t184 x11_5) = 0
                                · rw [if_pos c45] at H
                                  have c45b0 : ((Go.bits .and .i64 t184 x11_5) == 0) = true := beq_iff_eq.mpr c45
                                  have c45b1 : ((Go.bits .and .i64 t184 x11_5) != 0) = false := bne_eq_false_iff_eq.mpr c45
                                  clear c45
                                  replace H := Option.bind_eq_some_iff.mp H
                                  obtain ⟨t210, A460, H⟩ := H
                                  replace H : (some (t209, t210, (a0 != 19))) = some (r1, r2, r3) := H
                                  have A46 := Aside0.mk A460
                                  clear A460
                                  simp only [Option.some.injEq, Prod.mk.injEq] at H
                                  obtain ⟨rfl, rfl, rfl⟩ := H
                                  go_wp2_with (first | ((with_reducible refine gate_callee (f := 26) rfl ?_); refine goesL_ (some 127) rfl rfl Tryd.func26 (by kernel_rfl) rfl #[.int .i64 (wrap64 (t184 * 2)), .bool a1] rfl (by (try simp only [List.map_toArray, List.map_cons, List.map_nil]); first | done | rfl | (simp only [List.length_drop, List.length_take]; rfl)) ?_; (with_reducible refine (alu_cut.calls (wrap64 (t184 * 2)) a1 t209 _ A44.out).mono ?_); rintro e w' ⟨rfl, ⟨nd, rfl⟩⟩; refine ⟨_, rfl, ?_⟩) | ((with_reducible refine gate_callee (f := 31) rfl ?_); refine goesL_ (some 135) rfl rfl Tryd.func31 (by kernel_rfl) rfl #[.int .i64 t209, .int .i64 0, .bool a1] rfl (by (try simp only [List.map_toArray, List.map_cons, List.map_nil]); first | done | rfl | (simp only [List.length_drop, List.length_take]; rfl)) ?_; (with_reducible refine (alu_moved.calls t209 0 a1 t210 _ (hS.go (by repeat (first | (with_reducible first | exact HB.out | apply below_alloc | apply pw_below_drewN | apply below_drew1) | exact HB.out))) A46.out).mono ?_); rintro e w47 ⟨rfl, hb⟩; refine ⟨_, rfl, ?_⟩; have n0_ := Aside0.mk (below_step (by repeat (first | (with_reducible first | exact HB.out | apply below_alloc | apply pw_below_drewN | apply below_drew1) | exact HB.out)) hb); clear HB; have HB := n0_; clear n0_; (try clear hb); (try clear hb2); (try clear hk); (try clear hi)))
                                  go_ret3
                                  exact ⟨by first | rfl | (simp [errW_none, errW_some] <;> rfl) | (simp [*, errW_none, errW_some] <;> rfl), by repeat (first | (with_reducible first | exact HB.out | apply below_alloc | apply pw_below_drewN | apply below_drew1) | exact HB.out)⟩
                                · rw [if_neg c45] at H
                                  have c45b0 : ((Go.bits .and .i64 t184 x11_5) == 0) = false := beq_eq_false_iff_ne.mpr c45
                                  have c45b1 : ((Go.bits .and .i64 t184 x11_5) != 0) = true := bne_iff_ne.mpr c45
                                  replace H := Option.bind_eq_some_iff.mp H
                                  obtain ⟨t211, A480, H⟩ := H
                                  replace H : (some (t209, t211, (a0 != 19))) = some (r1, r2, r3) := H
                                  have A48 := Aside0.mk A480
                                  clear A480
                                  simp only [Option.some.injEq, Prod.mk.injEq] at H
                                  obtain ⟨rfl, rfl, rfl⟩ := H
                                  go_wp2_with (first | ((with_reducible refine gate_callee (f := 26) rfl ?_); refine goesL_ (some 127) rfl rfl Tryd.func26 (by kernel_rfl) rfl #[.int .i64 (wrap64 (t184 * 2)), .bool a1] rfl (by (try simp only [List.map_toArray, List.map_cons, List.map_nil]); first | done | rfl | (simp only [List.length_drop, List.length_take]; rfl)) ?_; (with_reducible refine (alu_cut.calls (wrap64 (t184 * 2)) a1 t209 _ A44.out).mono ?_); rintro e w' ⟨rfl, ⟨nd, rfl⟩⟩; refine ⟨_, rfl, ?_⟩) | ((with_reducible refine gate_callee (f := 31) rfl ?_); refine goesL_ (some 135) rfl rfl Tryd.func31 (by kernel_rfl) rfl #[.int .i64 t209, .int .i64 1, .bool a1] rfl (by (try simp only [List.map_toArray, List.map_cons, List.map_nil]); first | done | rfl | (simp only [List.length_drop, List.length_take]; rfl)) ?_; (with_reducible refine (alu_moved.calls t209 1 a1 t211 _ (hS.go (by repeat (first | (with_reducible first | exact HB.out | apply below_alloc | apply pw_below_drewN | apply below_drew1) | exact HB.out))) A48.out).mono ?_); rintro e w49 ⟨rfl, hb⟩; refine ⟨_, rfl, ?_⟩; have n0_ := Aside0.mk (below_step (by repeat (first | (with_reducible first | exact HB.out | apply below_alloc | apply pw_below_drewN | apply below_drew1) | exact HB.out)) hb); clear HB; have HB := n0_; clear n0_; (try clear hb); (try clear hb2); (try clear hk); (try clear hi)))
                                  go_ret3
                                  exact ⟨by first | rfl | (simp [errW_none, errW_some] <;> rfl) | (simp [*, errW_none, errW_some] <;> rfl), by repeat (first | (with_reducible first | exact HB.out | apply below_alloc | apply pw_below_drewN | apply below_drew1) | exact HB.out)⟩
                              · rw [if_neg c43] at H
                                have c43b0 : (a0 == 23) = false := beq_eq_false_iff_ne.mpr c43
                                have c43b1 : (a0 != 23) = true := bne_iff_ne.mpr c43
                                replace H := Option.bind_eq_some_iff.mp H
                                obtain ⟨⟨t200, t201, t202⟩, A500, H⟩ := H
                                replace H : (some (t200, t201, t202)) = some (r1, r2, r3) := H
                                have A50 := Aside0.mk A500
                                clear A500
                                simp only [Option.some.injEq, Prod.mk.injEq] at H
                                obtain ⟨rfl, rfl, rfl⟩ := H
                                go_wp2_with (first | ((with_reducible refine gate_callee (f := 32) rfl ?_); refine goesL_ (some 140) rfl rfl Tryd.func32 (by kernel_rfl) rfl #[.int .i64 a0, .bool a1, .int .i64 t184, .int .i64 a3] rfl (by (try simp only [List.map_toArray, List.map_cons, List.map_nil]); first | done | rfl | (simp only [List.length_drop, List.length_take]; rfl)) ?_; (with_reducible refine (alu_wordOnly.calls kj34 a0 a1 t184 a3 t200 t201 t202 _ (hS.go (by repeat (first | (with_reducible first | exact HB.out | apply below_alloc | apply pw_below_drewN | apply below_drew1) | exact HB.out))) A50.out).mono ?_); rintro e w51 ⟨rfl, hb⟩; refine ⟨_, rfl, ?_⟩; have n0_ := Aside0.mk (below_step (by repeat (first | (with_reducible first | exact HB.out | apply below_alloc | apply pw_below_drewN | apply below_drew1) | exact HB.out)) hb); clear HB; have HB := n0_; clear n0_; (try clear hb); (try clear hb2); (try clear hk); (try clear hi)))
                                go_ret3
                                exact ⟨by first | rfl | (simp [errW_none, errW_some] <;> rfl) | (simp [*, errW_none, errW_some] <;> rfl), by repeat (first | (with_reducible first | exact HB.out | apply below_alloc | apply pw_below_drewN | apply below_drew1) | exact HB.out)⟩

end Go.Proofs.YtfeflghimnbhiaaDoor.A
