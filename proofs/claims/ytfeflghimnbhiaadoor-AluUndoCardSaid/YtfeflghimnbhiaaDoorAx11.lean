-- Written by a program of this session (mp.py) over the kit's print.py, with proofs by hand for what the print does not take.
import Derived.Test.YtfeflghimnbhiaaDoorAx0
import Derived.Test.YtfeflghimnbhiaaDoorAx1
import Derived.Test.YtfeflghimnbhiaaDoorAx10
namespace Go.Proofs.YtfeflghimnbhiaaDoor.A
open Go.RowKit Go.Proofs.YtfeflghimnbhiaaDoorW.PrintWords Go.Proofs.YtfeflghimnbhiaaDoorW.PrintLast Go.Proofs.YtfeflghimnbhiaaDoorW.PrintMore
attribute [local go_sem] max2_int min2_int max_two min_two max_three min_three max_four min_four   -- for this text's walks alone
set_option linter.unusedVariables false
set_option linter.unusedSimpArgs false

/-! ### word_Mul: function 35 -/
def word_Mul.f (a0 : Int) (a1 : Int) : Option (Int × Int × Int) := (word_Signed.f a0).bind fun t212 => ((word_Signed.f a1).bind fun t213 => ((word_Wrap.f ((wrap64 (t212 * t213)) / 65536)).bind fun t214 => ((word_Wrap.f (wrap64 (t212 * t213))).bind fun t215 => ((word_when.f (decide ((wrap64 (t212 * t213)) < 0)) 8).bind fun t216 => ((word_when.f ((wrap64 (t212 * t213)) == 0) 4).bind fun t217 => ((word_Signed.f (wrap64 (t212 * t213))).bind fun t218 => ((word_when.f ((wrap64 (t212 * t213)) != t218) 1).bind fun t219 => (some (t214, t215, Go.bits .or .i64 (Go.bits .or .i64 t216 t217) t219)))))))))
set_option maxHeartbeats 8000000 in
set_option maxRecDepth 100000 in
theorem word_Mul.calls (a0 : Int) (a1 : Int) (r1 : Int) (r2 : Int) (r3 : Int) (w : World) (h : word_Mul.f a0 a1 = some (r1, r2, r3)) :
    Calls Tryd.prog 35 #[.int .i64 a0, .int .i64 a1] w fun e w' => e = .returned (.tuple #[.int .i64 r1, .int .i64 r2, .int .i64 r3]) ∧ Drawn0 w w' := by
  have H : ((word_Signed.f a0).bind fun t212 => ((word_Signed.f a1).bind fun t213 => ((word_Wrap.f ((wrap64 (t212 * t213)) / 65536)).bind fun t214 => ((word_Wrap.f (wrap64 (t212 * t213))).bind fun t215 => ((word_when.f (decide ((wrap64 (t212 * t213)) < 0)) 8).bind fun t216 => ((word_when.f ((wrap64 (t212 * t213)) == 0) 4).bind fun t217 => ((word_Signed.f (wrap64 (t212 * t213))).bind fun t218 => ((word_when.f ((wrap64 (t212 * t213)) != t218) 1).bind fun t219 => (some (t214, t215, Go.bits .or .i64 (Go.bits .or .i64 t216 t217) t219)))))))))) = some (r1, r2, r3) := h
  clear h
  replace H := Option.bind_eq_some_iff.mp H
  obtain ⟨t212, A30, H⟩ := H
  replace H : ((word_Signed.f a1).bind fun t213 => ((word_Wrap.f ((wrap64 (t212 * t213)) / 65536)).bind fun t214 => ((word_Wrap.f (wrap64 (t212 * t213))).bind fun t215 => ((word_when.f (decide ((wrap64 (t212 * t213)) < 0)) 8).bind fun t216 => ((word_when.f ((wrap64 (t212 * t213)) == 0) 4).bind fun t217 => ((word_Signed.f (wrap64 (t212 * t213))).bind fun t218 => ((word_when.f ((wrap64 (t212 * t213)) != t218) 1).bind fun t219 => (some (t214, t215, Go.bits .or .i64 (Go.bits .or .i64 t216 t217) t219))))))))) = some (r1, r2, r3) := H
  have A3 := Aside0.mk A30
  clear A30
  replace H := Option.bind_eq_some_iff.mp H
  obtain ⟨t213, A40, H⟩ := H
  replace H : ((word_Wrap.f ((wrap64 (t212 * t213)) / 65536)).bind fun t214 => ((word_Wrap.f (wrap64 (t212 * t213))).bind fun t215 => ((word_when.f (decide ((wrap64 (t212 * t213)) < 0)) 8).bind fun t216 => ((word_when.f ((wrap64 (t212 * t213)) == 0) 4).bind fun t217 => ((word_Signed.f (wrap64 (t212 * t213))).bind fun t218 => ((word_when.f ((wrap64 (t212 * t213)) != t218) 1).bind fun t219 => (some (t214, t215, Go.bits .or .i64 (Go.bits .or .i64 t216 t217) t219)))))))) = some (r1, r2, r3) := H
  have A4 := Aside0.mk A40
  clear A40
  replace H := Option.bind_eq_some_iff.mp H
  obtain ⟨t214, A50, H⟩ := H
  replace H : ((word_Wrap.f (wrap64 (t212 * t213))).bind fun t215 => ((word_when.f (decide ((wrap64 (t212 * t213)) < 0)) 8).bind fun t216 => ((word_when.f ((wrap64 (t212 * t213)) == 0) 4).bind fun t217 => ((word_Signed.f (wrap64 (t212 * t213))).bind fun t218 => ((word_when.f ((wrap64 (t212 * t213)) != t218) 1).bind fun t219 => (some (t214, t215, Go.bits .or .i64 (Go.bits .or .i64 t216 t217) t219))))))) = some (r1, r2, r3) := H
  have A5 := Aside0.mk A50
  clear A50
  replace H := Option.bind_eq_some_iff.mp H
  obtain ⟨t215, A60, H⟩ := H
  replace H : ((word_when.f (decide ((wrap64 (t212 * t213)) < 0)) 8).bind fun t216 => ((word_when.f ((wrap64 (t212 * t213)) == 0) 4).bind fun t217 => ((word_Signed.f (wrap64 (t212 * t213))).bind fun t218 => ((word_when.f ((wrap64 (t212 * t213)) != t218) 1).bind fun t219 => (some (t214, t215, Go.bits .or .i64 (Go.bits .or .i64 t216 t217) t219)))))) = some (r1, r2, r3) := H
  have A6 := Aside0.mk A60
  clear A60
  replace H := Option.bind_eq_some_iff.mp H
  obtain ⟨t216, A70, H⟩ := H
  replace H : ((word_when.f ((wrap64 (t212 * t213)) == 0) 4).bind fun t217 => ((word_Signed.f (wrap64 (t212 * t213))).bind fun t218 => ((word_when.f ((wrap64 (t212 * t213)) != t218) 1).bind fun t219 => (some (t214, t215, Go.bits .or .i64 (Go.bits .or .i64 t216 t217) t219))))) = some (r1, r2, r3) := H
  have A7 := Aside0.mk A70
  clear A70
  replace H := Option.bind_eq_some_iff.mp H
  obtain ⟨t217, A80, H⟩ := H
  replace H : ((word_Signed.f (wrap64 (t212 * t213))).bind fun t218 => ((word_when.f ((wrap64 (t212 * t213)) != t218) 1).bind fun t219 => (some (t214, t215, Go.bits .or .i64 (Go.bits .or .i64 t216 t217) t219)))) = some (r1, r2, r3) := H
  have A8 := Aside0.mk A80
  clear A80
  replace H := Option.bind_eq_some_iff.mp H
  obtain ⟨t218, A90, H⟩ := H
  replace H : ((word_when.f ((wrap64 (t212 * t213)) != t218) 1).bind fun t219 => (some (t214, t215, Go.bits .or .i64 (Go.bits .or .i64 t216 t217) t219))) = some (r1, r2, r3) := H
  have A9 := Aside0.mk A90
  clear A90
  replace H := Option.bind_eq_some_iff.mp H
  obtain ⟨t219, A100, H⟩ := H
  replace H : (some (t214, t215, Go.bits .or .i64 (Go.bits .or .i64 t216 t217) t219)) = some (r1, r2, r3) := H
  have A10 := Aside0.mk A100
  clear A100
  simp only [Option.some.injEq, Prod.mk.injEq] at H
  obtain ⟨rfl, rfl, rfl⟩ := H
  go_enter Tryd.func35, Tryd.ntmps35
  go_wp2_with (first | ((with_reducible refine gate_callee (f := 45) rfl ?_); refine goesL_ (some 9) rfl rfl Tryd.func45 (by kernel_rfl) rfl #[.int .i64 a0] rfl (by (try simp only [List.map_toArray, List.map_cons, List.map_nil]); first | done | rfl | (simp only [List.length_drop, List.length_take]; rfl)) ?_; (with_reducible refine (word_Signed.calls a0 t212 _ A3.out).mono ?_); rintro e w' ⟨rfl, ⟨nd, rfl⟩⟩; refine ⟨_, rfl, ?_⟩) | ((with_reducible refine gate_callee (f := 45) rfl ?_); refine goesL_ (some 11) rfl rfl Tryd.func45 (by kernel_rfl) rfl #[.int .i64 a1] rfl (by (try simp only [List.map_toArray, List.map_cons, List.map_nil]); first | done | rfl | (simp only [List.length_drop, List.length_take]; rfl)) ?_; (with_reducible refine (word_Signed.calls a1 t213 _ A4.out).mono ?_); rintro e w' ⟨rfl, ⟨nd, rfl⟩⟩; refine ⟨_, rfl, ?_⟩) | ((with_reducible refine gate_callee (f := 46) rfl ?_); refine goesL_ (some 15) rfl rfl Tryd.func46 (by kernel_rfl) rfl #[.int .i64 ((wrap64 (t212 * t213)) / 65536)] rfl (by (try simp only [List.map_toArray, List.map_cons, List.map_nil]); first | done | rfl | (simp only [List.length_drop, List.length_take]; rfl)) ?_; (with_reducible refine (word_Wrap.calls ((wrap64 (t212 * t213)) / 65536) t214 _ A5.out).mono ?_); rintro e w' ⟨rfl, ⟨nd, rfl⟩⟩; refine ⟨_, rfl, ?_⟩) | ((with_reducible refine gate_callee (f := 46) rfl ?_); refine goesL_ (some 17) rfl rfl Tryd.func46 (by kernel_rfl) rfl #[.int .i64 (wrap64 (t212 * t213))] rfl (by (try simp only [List.map_toArray, List.map_cons, List.map_nil]); first | done | rfl | (simp only [List.length_drop, List.length_take]; rfl)) ?_; (with_reducible refine (word_Wrap.calls (wrap64 (t212 * t213)) t215 _ A6.out).mono ?_); rintro e w' ⟨rfl, ⟨nd, rfl⟩⟩; refine ⟨_, rfl, ?_⟩) | ((with_reducible refine gate_callee (f := 42) rfl ?_); refine goesL_ (some 20) rfl rfl Tryd.func42 (by kernel_rfl) rfl #[.bool (decide ((wrap64 (t212 * t213)) < 0)), .int .i64 8] rfl (by (try simp only [List.map_toArray, List.map_cons, List.map_nil]); first | done | rfl | (simp only [List.length_drop, List.length_take]; rfl)) ?_; (with_reducible refine (word_when.calls (decide ((wrap64 (t212 * t213)) < 0)) 8 t216 _ A7.out).mono ?_); rintro e w' ⟨rfl, ⟨nd, rfl⟩⟩; refine ⟨_, rfl, ?_⟩) | ((with_reducible refine gate_callee (f := 42) rfl ?_); refine goesL_ (some 23) rfl rfl Tryd.func42 (by kernel_rfl) rfl #[.bool ((wrap64 (t212 * t213)) == 0), .int .i64 4] rfl (by (try simp only [List.map_toArray, List.map_cons, List.map_nil]); first | done | rfl | (simp only [List.length_drop, List.length_take]; rfl)) ?_; (with_reducible refine (word_when.calls ((wrap64 (t212 * t213)) == 0) 4 t217 _ A8.out).mono ?_); rintro e w' ⟨rfl, ⟨nd, rfl⟩⟩; refine ⟨_, rfl, ?_⟩) | ((with_reducible refine gate_callee (f := 45) rfl ?_); refine goesL_ (some 27) rfl rfl Tryd.func45 (by kernel_rfl) rfl #[.int .i64 (wrap64 (t212 * t213))] rfl (by (try simp only [List.map_toArray, List.map_cons, List.map_nil]); first | done | rfl | (simp only [List.length_drop, List.length_take]; rfl)) ?_; (with_reducible refine (word_Signed.calls (wrap64 (t212 * t213)) t218 _ A9.out).mono ?_); rintro e w' ⟨rfl, ⟨nd, rfl⟩⟩; refine ⟨_, rfl, ?_⟩) | ((with_reducible refine gate_callee (f := 42) rfl ?_); refine goesL_ (some 29) rfl rfl Tryd.func42 (by kernel_rfl) rfl #[.bool ((wrap64 (t212 * t213)) != t218), .int .i64 1] rfl (by (try simp only [List.map_toArray, List.map_cons, List.map_nil]); first | done | rfl | (simp only [List.length_drop, List.length_take]; rfl)) ?_; (with_reducible refine (word_when.calls ((wrap64 (t212 * t213)) != t218) 1 t219 _ A10.out).mono ?_); rintro e w' ⟨rfl, ⟨nd, rfl⟩⟩; refine ⟨_, rfl, ?_⟩))
  go_ret3
  exact ⟨by first | rfl | (simp; done) | (simp [*]; done), by repeat (first | exact Drawn0.refl _ | apply Drawn0.step)⟩

/-! ### word_Div: function 36 -/
def word_Div.f (a0 : Int) (a1 : Int) (a2 : Int) : Option (Int × Int × Int × Bool) := (word_Signed.f a0).bind fun t220 => ((word_Wrap.f a1).bind fun t221 => ((word_Signed.f a2).bind fun t222 => (if t222 = 0 then (some (0, 0, 3, false)) else ((word_Signed.f (wrap64 (Int.tdiv (wrap64 ((wrap64 (t220 * 65536)) + t221)) t222))).bind fun t223 => (if (wrap64 (Int.tdiv (wrap64 ((wrap64 (t220 * 65536)) + t221)) t222)) = t223 then ((word_Wrap.f (wrap64 (Int.tdiv (wrap64 ((wrap64 (t220 * 65536)) + t221)) t222))).bind fun t224 => ((word_Wrap.f (Int.tmod (wrap64 ((wrap64 (t220 * 65536)) + t221)) t222)).bind fun t225 => ((word_Flags.f (wrap64 (Int.tdiv (wrap64 ((wrap64 (t220 * 65536)) + t221)) t222)) false).bind fun t226 => (some (t224, t225, t226, true))))) else (some (0, 0, 2, false)))))))
def word_Div.T7 : Bool × List (List Nat × List Nat) := (true, [([], []), ([0], [0]), ([], []), ([], []), ([2, 3], [2, 3]), ([4, 1], [4]), ([], []), ([6, 5], [6]), ([1, 7, 0, 1], [1]), ([5, 8, 0, 1, 2, 3, 4, 5, 8], [5]), ([7, 9, 0, 1, 2, 3, 4, 5, 6, 7, 8, 9], [7]), ([10, 0, 1, 2, 3, 4, 5, 6, 7, 8, 9, 10], [])])
def word_Div.B7 : List Nat := [0, 1, 0, 0, 12, 31, 0, 127, 255, 511, 1023, 2047]
theorem word_Div.tab7 : rtab .any (opsOf Tryd.f36 7) = word_Div.T7 := by kernel_rfl
theorem word_Div.bits7 : waitsOk word_Div.T7.2 word_Div.B7 = true := by kernel_rfl
set_option maxHeartbeats 8000000 in
set_option maxRecDepth 100000 in
theorem word_Div.calls (a0 : Int) (a1 : Int) (a2 : Int) (r1 : Int) (r2 : Int) (r3 : Int) (r4 : Bool) (w : World) (hS : Sz w) (h : word_Div.f a0 a1 a2 = some (r1, r2, r3, r4)) :
    Calls Tryd.prog 36 #[.int .i64 a0, .int .i64 a1, .int .i64 a2] w fun e w' => e = .returned (.tuple #[.int .i64 r1, .int .i64 r2, .int .i64 r3, .bool r4]) ∧ Below w.heap.size w w' := by
  have HB := Aside0.mk (Below.refl w.heap.size w)
  have H : ((word_Signed.f a0).bind fun t220 => ((word_Wrap.f a1).bind fun t221 => ((word_Signed.f a2).bind fun t222 => (if t222 = 0 then (some (0, 0, 3, false)) else ((word_Signed.f (wrap64 (Int.tdiv (wrap64 ((wrap64 (t220 * 65536)) + t221)) t222))).bind fun t223 => (if (wrap64 (Int.tdiv (wrap64 ((wrap64 (t220 * 65536)) + t221)) t222)) = t223 then ((word_Wrap.f (wrap64 (Int.tdiv (wrap64 ((wrap64 (t220 * 65536)) + t221)) t222))).bind fun t224 => ((word_Wrap.f (Int.tmod (wrap64 ((wrap64 (t220 * 65536)) + t221)) t222)).bind fun t225 => ((word_Flags.f (wrap64 (Int.tdiv (wrap64 ((wrap64 (t220 * 65536)) + t221)) t222)) false).bind fun t226 => (some (t224, t225, t226, true))))) else (some (0, 0, 2, false)))))))) = some (r1, r2, r3, r4) := h
  clear h
  replace H := Option.bind_eq_some_iff.mp H
  obtain ⟨t220, A40, H⟩ := H
  replace H : ((word_Wrap.f a1).bind fun t221 => ((word_Signed.f a2).bind fun t222 => (if t222 = 0 then (some (0, 0, 3, false)) else ((word_Signed.f (wrap64 (Int.tdiv (wrap64 ((wrap64 (t220 * 65536)) + t221)) t222))).bind fun t223 => (if (wrap64 (Int.tdiv (wrap64 ((wrap64 (t220 * 65536)) + t221)) t222)) = t223 then ((word_Wrap.f (wrap64 (Int.tdiv (wrap64 ((wrap64 (t220 * 65536)) + t221)) t222))).bind fun t224 => ((word_Wrap.f (Int.tmod (wrap64 ((wrap64 (t220 * 65536)) + t221)) t222)).bind fun t225 => ((word_Flags.f (wrap64 (Int.tdiv (wrap64 ((wrap64 (t220 * 65536)) + t221)) t222)) false).bind fun t226 => (some (t224, t225, t226, true))))) else (some (0, 0, 2, false))))))) = some (r1, r2, r3, r4) := H
  have A4 := Aside0.mk A40
  clear A40
  replace H := Option.bind_eq_some_iff.mp H
  obtain ⟨t221, A50, H⟩ := H
  replace H : ((word_Signed.f a2).bind fun t222 => (if t222 = 0 then (some (0, 0, 3, false)) else ((word_Signed.f (wrap64 (Int.tdiv (wrap64 ((wrap64 (t220 * 65536)) + t221)) t222))).bind fun t223 => (if (wrap64 (Int.tdiv (wrap64 ((wrap64 (t220 * 65536)) + t221)) t222)) = t223 then ((word_Wrap.f (wrap64 (Int.tdiv (wrap64 ((wrap64 (t220 * 65536)) + t221)) t222))).bind fun t224 => ((word_Wrap.f (Int.tmod (wrap64 ((wrap64 (t220 * 65536)) + t221)) t222)).bind fun t225 => ((word_Flags.f (wrap64 (Int.tdiv (wrap64 ((wrap64 (t220 * 65536)) + t221)) t222)) false).bind fun t226 => (some (t224, t225, t226, true))))) else (some (0, 0, 2, false)))))) = some (r1, r2, r3, r4) := H
  have A5 := Aside0.mk A50
  clear A50
  replace H := Option.bind_eq_some_iff.mp H
  obtain ⟨t222, A60, H⟩ := H
  replace H : (if t222 = 0 then (some (0, 0, 3, false)) else ((word_Signed.f (wrap64 (Int.tdiv (wrap64 ((wrap64 (t220 * 65536)) + t221)) t222))).bind fun t223 => (if (wrap64 (Int.tdiv (wrap64 ((wrap64 (t220 * 65536)) + t221)) t222)) = t223 then ((word_Wrap.f (wrap64 (Int.tdiv (wrap64 ((wrap64 (t220 * 65536)) + t221)) t222))).bind fun t224 => ((word_Wrap.f (Int.tmod (wrap64 ((wrap64 (t220 * 65536)) + t221)) t222)).bind fun t225 => ((word_Flags.f (wrap64 (Int.tdiv (wrap64 ((wrap64 (t220 * 65536)) + t221)) t222)) false).bind fun t226 => (some (t224, t225, t226, true))))) else (some (0, 0, 2, false))))) = some (r1, r2, r3, r4) := H
  have A6 := Aside0.mk A60
  clear A60
  by_cases c7 : t222 = 0
  · rw [if_pos c7] at H
    have c7b0 : (t222 == 0) = true := beq_iff_eq.mpr c7
    have c7b1 : (t222 != 0) = false := bne_eq_false_iff_eq.mpr c7
    clear c7
    simp only [Option.some.injEq, Prod.mk.injEq] at H
    obtain ⟨rfl, rfl, rfl, rfl⟩ := H
    go_enter Tryd.func36, Tryd.ntmps36
    go_wp2_with (first | ((with_reducible refine gate_callee (f := 45) rfl ?_); refine goesL_ (some 14) rfl rfl Tryd.func45 (by kernel_rfl) rfl #[.int .i64 a0] rfl (by (try simp only [List.map_toArray, List.map_cons, List.map_nil]); first | done | rfl | (simp only [List.length_drop, List.length_take]; rfl)) ?_; (with_reducible refine (word_Signed.calls a0 t220 _ A4.out).mono ?_); rintro e w' ⟨rfl, ⟨nd, rfl⟩⟩; refine ⟨_, rfl, ?_⟩) | ((with_reducible refine gate_callee (f := 46) rfl ?_); refine goesL_ (some 17) rfl rfl Tryd.func46 (by kernel_rfl) rfl #[.int .i64 a1] rfl (by (try simp only [List.map_toArray, List.map_cons, List.map_nil]); first | done | rfl | (simp only [List.length_drop, List.length_take]; rfl)) ?_; (with_reducible refine (word_Wrap.calls a1 t221 _ A5.out).mono ?_); rintro e w' ⟨rfl, ⟨nd, rfl⟩⟩; refine ⟨_, rfl, ?_⟩) | ((with_reducible refine gate_callee (f := 45) rfl ?_); refine goesL_ (some 20) rfl rfl Tryd.func45 (by kernel_rfl) rfl #[.int .i64 a2] rfl (by (try simp only [List.map_toArray, List.map_cons, List.map_nil]); first | done | rfl | (simp only [List.length_drop, List.length_take]; rfl)) ?_; (with_reducible refine (word_Signed.calls a2 t222 _ A6.out).mono ?_); rintro e w' ⟨rfl, ⟨nd, rfl⟩⟩; refine ⟨_, rfl, ?_⟩))
    refine bodyPost_ret (results_list (rs := [.tmp 6, .tmp 7, .tmp 8, .tmp 9]) rfl (by simp) (.tmp (.tmp (.tmp (.tmp .nil))))) rfl ?_
    exact ⟨by first | rfl | (simp [errW_none, errW_some] <;> rfl) | (simp [*, errW_none, errW_some] <;> rfl), by repeat (first | (with_reducible first | exact HB.out | exact Below.refl _ _ | apply below_alloc | apply pw_below_drewN | apply below_drew1) | exact HB.out)⟩
  · rw [if_neg c7] at H
    have c7b0 : (t222 == 0) = false := beq_eq_false_iff_ne.mpr c7
    have c7b1 : (t222 != 0) = true := bne_iff_ne.mpr c7
    replace H := Option.bind_eq_some_iff.mp H
    obtain ⟨t223, A80, H⟩ := H
    replace H : (if (wrap64 (Int.tdiv (wrap64 ((wrap64 (t220 * 65536)) + t221)) t222)) = t223 then ((word_Wrap.f (wrap64 (Int.tdiv (wrap64 ((wrap64 (t220 * 65536)) + t221)) t222))).bind fun t224 => ((word_Wrap.f (Int.tmod (wrap64 ((wrap64 (t220 * 65536)) + t221)) t222)).bind fun t225 => ((word_Flags.f (wrap64 (Int.tdiv (wrap64 ((wrap64 (t220 * 65536)) + t221)) t222)) false).bind fun t226 => (some (t224, t225, t226, true))))) else (some (0, 0, 2, false))) = some (r1, r2, r3, r4) := H
    have A8 := Aside0.mk A80
    clear A80
    by_cases c9 : (wrap64 (Int.tdiv (wrap64 ((wrap64 (t220 * 65536)) + t221)) t222)) = t223
    · rw [if_pos c9] at H
      have c9b0 : ((wrap64 (Int.tdiv (wrap64 ((wrap64 (t220 * 65536)) + t221)) t222)) == t223) = true := beq_iff_eq.mpr c9
      have c9b1 : ((wrap64 (Int.tdiv (wrap64 ((wrap64 (t220 * 65536)) + t221)) t222)) != t223) = false := bne_eq_false_iff_eq.mpr c9
      clear c9
      replace H := Option.bind_eq_some_iff.mp H
      obtain ⟨t224, A100, H⟩ := H
      replace H : ((word_Wrap.f (Int.tmod (wrap64 ((wrap64 (t220 * 65536)) + t221)) t222)).bind fun t225 => ((word_Flags.f (wrap64 (Int.tdiv (wrap64 ((wrap64 (t220 * 65536)) + t221)) t222)) false).bind fun t226 => (some (t224, t225, t226, true)))) = some (r1, r2, r3, r4) := H
      have A10 := Aside0.mk A100
      clear A100
      replace H := Option.bind_eq_some_iff.mp H
      obtain ⟨t225, A110, H⟩ := H
      replace H : ((word_Flags.f (wrap64 (Int.tdiv (wrap64 ((wrap64 (t220 * 65536)) + t221)) t222)) false).bind fun t226 => (some (t224, t225, t226, true))) = some (r1, r2, r3, r4) := H
      have A11 := Aside0.mk A110
      clear A110
      replace H := Option.bind_eq_some_iff.mp H
      obtain ⟨t226, A120, H⟩ := H
      replace H : (some (t224, t225, t226, true)) = some (r1, r2, r3, r4) := H
      have A12 := Aside0.mk A120
      clear A120
      simp only [Option.some.injEq, Prod.mk.injEq] at H
      obtain ⟨rfl, rfl, rfl, rfl⟩ := H
      go_enter Tryd.func36, Tryd.ntmps36
      try go_wp2_with (first | ((with_reducible refine gate_callee (f := 45) rfl ?_); refine goesL_ (some 14) rfl rfl Tryd.func45 (by kernel_rfl) rfl #[.int .i64 a0] rfl (by (try simp only [List.map_toArray, List.map_cons, List.map_nil]); first | done | rfl | (simp only [List.length_drop, List.length_take]; rfl)) ?_; (with_reducible refine (word_Signed.calls a0 t220 _ A4.out).mono ?_); rintro e w' ⟨rfl, ⟨nd, rfl⟩⟩; refine ⟨_, rfl, ?_⟩) | ((with_reducible refine gate_callee (f := 46) rfl ?_); refine goesL_ (some 17) rfl rfl Tryd.func46 (by kernel_rfl) rfl #[.int .i64 a1] rfl (by (try simp only [List.map_toArray, List.map_cons, List.map_nil]); first | done | rfl | (simp only [List.length_drop, List.length_take]; rfl)) ?_; (with_reducible refine (word_Wrap.calls a1 t221 _ A5.out).mono ?_); rintro e w' ⟨rfl, ⟨nd, rfl⟩⟩; refine ⟨_, rfl, ?_⟩) | ((with_reducible refine gate_callee (f := 45) rfl ?_); refine goesL_ (some 20) rfl rfl Tryd.func45 (by kernel_rfl) rfl #[.int .i64 a2] rfl (by (try simp only [List.map_toArray, List.map_cons, List.map_nil]); first | done | rfl | (simp only [List.length_drop, List.length_take]; rfl)) ?_; (with_reducible refine (word_Signed.calls a2 t222 _ A6.out).mono ?_); rintro e w' ⟨rfl, ⟨nd, rfl⟩⟩; refine ⟨_, rfl, ?_⟩) | ((with_reducible refine gate_callee (f := 45) rfl ?_); refine goesL_ (some 28) rfl rfl Tryd.func45 (by kernel_rfl) rfl #[.int .i64 (wrap64 (Int.tdiv (wrap64 ((wrap64 (t220 * 65536)) + t221)) t222))] rfl (by (try simp only [List.map_toArray, List.map_cons, List.map_nil]); first | done | rfl | (simp only [List.length_drop, List.length_take]; rfl)) ?_; (with_reducible refine (word_Signed.calls (wrap64 (Int.tdiv (wrap64 ((wrap64 (t220 * 65536)) + t221)) t222)) t223 _ A8.out).mono ?_); rintro e w' ⟨rfl, ⟨nd, rfl⟩⟩; refine ⟨_, rfl, ?_⟩))
      have n0_ := Aside0.mk (below_drew1 HB.out)
      clear HB
      have HB := n0_
      clear n0_
      refine start_ (n := 12) (S := fun w' => True) (ds := []) #[false, false, false, false, false, false, false, false, false, false, false, false] (by kernel_rfl) rfl rfl trivial (fun hHeld => ?_); refine with_tabW word_Div.tab7 word_Div.bits7 (fun HT_ HW_ => ?_)
      generalize w.drew = w13 at HB hHeld ⊢
      refine pure_ (i := 0) (N := some 30) (v := ?_) (a' := ?_) #[true, false, false, false, false, false, false, false, false, false, false, false] rfl rfl (any_of HT_.out (by kernel_rfl)) (fun _ _ _ h => h) (Or.inl ⟨by rfl, ?_⟩) ?_ ?_
      rotate_left
      · intro w'
        go_simp
        with_reducible rfl
      rotate_left
      · simp only [Act.put, List.setIfInBounds_toArray, List.set_cons_zero, List.set_cons_succ, i64_w, i32_w]
        rfl
      refine pure_ (i := 2) (N := some 32) (v := ?_) (a' := ?_) #[true, false, true, false, false, false, false, false, false, false, false, false] rfl rfl (any_of HT_.out (by kernel_rfl)) (fun _ _ _ h => h) (Or.inl ⟨by rfl, ?_⟩) ?_ ?_
      rotate_left
      · intro w'
        go_simp
        with_reducible rfl
      rotate_left
      · simp only [Act.put, List.setIfInBounds_toArray, List.set_cons_zero, List.set_cons_succ, i64_w, i32_w]
        rfl
      refine pure_ (i := 3) (N := some 33) (v := ?_) (a' := ?_) #[true, false, true, true, false, false, false, false, false, false, false, false] rfl rfl (any_of HT_.out (by kernel_rfl)) (fun _ _ _ h => h) (Or.inl ⟨by rfl, ?_⟩) ?_ ?_
      rotate_left
      · intro w'
        go_simp
        with_reducible rfl
      rotate_left
      · simp only [Act.put, List.setIfInBounds_toArray, List.set_cons_zero, List.set_cons_succ, i64_w, i32_w]
        rfl
      refine pure_ (i := 4) (N := some 34) (v := ?_) (a' := ?_) #[true, false, true, true, true, false, false, false, false, false, false, false] rfl rfl (any_of HT_.out (by kernel_rfl)) (fun _ _ _ h => h) (Or.inl ⟨by rfl, ?_⟩) ?_ ?_
      rotate_left
      · intro w'
        go_simp
        with_reducible rfl
      rotate_left
      · simp only [Act.put, List.setIfInBounds_toArray, List.set_cons_zero, List.set_cons_succ, i64_w, i32_w]
        rfl
      refine pure_ (i := 6) (N := some 36) (v := ?_) (a' := ?_) #[true, false, true, true, true, false, true, false, false, false, false, false] rfl rfl (any_of HT_.out (by kernel_rfl)) (fun _ _ _ h => h) (Or.inl ⟨by rfl, ?_⟩) ?_ ?_
      rotate_left
      · intro w'
        go_simp
        with_reducible rfl
      rotate_left
      · simp only [Act.put, List.setIfInBounds_toArray, List.set_cons_zero, List.set_cons_succ, i64_w, i32_w]
        rfl
      refine one_ (i := 1) (N := some 31) #[true, true, true, true, true, false, true, false, false, false, false, false] rfl rfl (one_of HT_.out (by kernel_rfl)) (by decide) (fun K hK => ?_)
      refine goes_ Tryd.func46 (by kernel_rfl) rfl #[.int .i64 (wrap64 (Int.tdiv (wrap64 ((wrap64 (t220 * 65536)) + t221)) t222))] (by rfl) rfl rfl (by (try simp only [List.map_toArray, List.map_cons, List.map_nil]); first | done | rfl | (simp only [List.length_drop, List.length_take]; rfl)) ?_
      with_reducible refine (word_Wrap.calls (wrap64 (Int.tdiv (wrap64 ((wrap64 (t220 * 65536)) + t221)) t222)) t224 _ A10.out).mono ?_
      rintro e w' ⟨rfl, ⟨nd, rfl⟩⟩
      refine ⟨_, rfl, ?_⟩
      refine hK.out _ _ trivial (fun hHeld => ?_)
      clear hK K
      refine norm_ (a' := ?_) ?_ ?_
      rotate_left
      · show Act.put _ (some 31) _ = _
        simp only [Act.put, List.setIfInBounds_toArray, List.set_cons_zero, List.set_cons_succ, i64_w, i32_w]
        rfl
      refine one_ (i := 5) (N := some 35) #[true, true, true, true, true, true, true, false, false, false, false, false] rfl rfl (one_of HT_.out (by kernel_rfl)) (by decide) (fun K hK => ?_)
      refine goes_ Tryd.func46 (by kernel_rfl) rfl #[.int .i64 (Int.tmod (wrap64 ((wrap64 (t220 * 65536)) + t221)) t222)] (by rfl) rfl rfl (by (try simp only [List.map_toArray, List.map_cons, List.map_nil]); first | done | rfl | (simp only [List.length_drop, List.length_take]; rfl)) ?_
      with_reducible refine (word_Wrap.calls (Int.tmod (wrap64 ((wrap64 (t220 * 65536)) + t221)) t222) t225 _ A11.out).mono ?_
      rintro e w' ⟨rfl, ⟨nd, rfl⟩⟩
      refine ⟨_, rfl, ?_⟩
      refine hK.out _ _ trivial (fun hHeld => ?_)
      clear hK K
      refine norm_ (a' := ?_) ?_ ?_
      rotate_left
      · show Act.put _ (some 35) _ = _
        simp only [Act.put, List.setIfInBounds_toArray, List.set_cons_zero, List.set_cons_succ, i64_w, i32_w]
        rfl
      refine one_ (i := 7) (N := some 37) #[true, true, true, true, true, true, true, true, false, false, false, false] rfl rfl (one_of HT_.out (by kernel_rfl)) (by decide) (fun K hK => ?_)
      refine goes_ Tryd.func27 (by kernel_rfl) rfl #[.int .i64 (wrap64 (Int.tdiv (wrap64 ((wrap64 (t220 * 65536)) + t221)) t222)), .bool false] (by rfl) rfl rfl (by (try simp only [List.map_toArray, List.map_cons, List.map_nil]); first | done | rfl | (simp only [List.length_drop, List.length_take]; rfl)) ?_
      with_reducible refine (word_Flags.calls (wrap64 (Int.tdiv (wrap64 ((wrap64 (t220 * 65536)) + t221)) t222)) false t226 _ (hS.go (by repeat (first | (with_reducible first | exact HB.out | exact Below.refl _ _ | apply below_alloc | apply pw_below_drewN | apply below_drew1) | exact HB.out))) A12.out).mono ?_
      rintro e w14 ⟨rfl, hb⟩
      refine ⟨_, rfl, ?_⟩
      have n0_ := Aside0.mk (below_step (w := w) (by repeat (first | (with_reducible first | exact HB.out | exact Below.refl _ _ | apply below_alloc | apply pw_below_drewN | apply below_drew1) | exact HB.out)) hb)
      clear HB
      have HB := n0_
      clear n0_
      (try clear hb)
      (try clear hb2)
      (try clear hk)
      (try clear hi)
      refine hK.out _ _ trivial (fun hHeld => ?_)
      clear hK K
      refine norm_ (a' := ?_) ?_ ?_
      rotate_left
      · show Act.put _ (some 37) _ = _
        simp only [Act.put, List.setIfInBounds_toArray, List.set_cons_zero, List.set_cons_succ, i64_w, i32_w]
        rfl
      refine pure_ (i := 8) (N := some 6) (v := ?_) (a' := ?_) #[true, true, true, true, true, true, true, true, true, false, false, false] rfl rfl (any_of HT_.out (by kernel_rfl)) (fun _ _ _ h => h) (Or.inl ⟨by rfl, ?_⟩) ?_ ?_
      rotate_left
      · intro w'
        go_simp
        with_reducible rfl
      rotate_left
      · simp only [Act.put, List.setIfInBounds_toArray, List.set_cons_zero, List.set_cons_succ, i64_w, i32_w]
        rfl
      refine pure_ (i := 9) (N := some 7) (v := ?_) (a' := ?_) #[true, true, true, true, true, true, true, true, true, true, false, false] rfl rfl (any_of HT_.out (by kernel_rfl)) (fun _ _ _ h => h) (Or.inl ⟨by rfl, ?_⟩) ?_ ?_
      rotate_left
      · intro w'
        go_simp
        with_reducible rfl
      rotate_left
      · simp only [Act.put, List.setIfInBounds_toArray, List.set_cons_zero, List.set_cons_succ, i64_w, i32_w]
        rfl
      refine pure_ (i := 10) (N := some 8) (v := ?_) (a' := ?_) #[true, true, true, true, true, true, true, true, true, true, true, false] rfl rfl (any_of HT_.out (by kernel_rfl)) (fun _ _ _ h => h) (Or.inl ⟨by rfl, ?_⟩) ?_ ?_
      rotate_left
      · intro w'
        go_simp
        with_reducible rfl
      rotate_left
      · simp only [Act.put, List.setIfInBounds_toArray, List.set_cons_zero, List.set_cons_succ, i64_w, i32_w]
        rfl
      refine pure_ (i := 11) (N := some 9) (v := ?_) (a' := ?_) #[true, true, true, true, true, true, true, true, true, true, true, true] rfl rfl (any_of HT_.out (by kernel_rfl)) (fun _ _ _ h => h) (Or.inl ⟨by rfl, ?_⟩) ?_ ?_
      rotate_left
      · intro w'
        go_simp
        with_reducible rfl
      rotate_left
      · simp only [Act.put, List.setIfInBounds_toArray, List.set_cons_zero, List.set_cons_succ, i64_w, i32_w]
        rfl
      refine done_ (done_of HT_.out (by kernel_rfl)) ?_
      try go_wp2
      refine bodyPost_ret (results_list (rs := [.tmp 6, .tmp 7, .tmp 8, .tmp 9]) rfl (by simp) (.tmp (.tmp (.tmp (.tmp .nil))))) rfl ?_
      exact ⟨by first | rfl | (simp [errW_none, errW_some] <;> rfl) | (simp [*, errW_none, errW_some] <;> rfl), by repeat (first | (with_reducible first | exact HB.out | exact Below.refl _ _ | apply below_alloc | apply pw_below_drewN | apply below_drew1) | exact HB.out)⟩
    · rw [if_neg c9] at H
      have c9b0 : ((wrap64 (Int.tdiv (wrap64 ((wrap64 (t220 * 65536)) + t221)) t222)) == t223) = false := beq_eq_false_iff_ne.mpr c9
      have c9b1 : ((wrap64 (Int.tdiv (wrap64 ((wrap64 (t220 * 65536)) + t221)) t222)) != t223) = true := bne_iff_ne.mpr c9
      simp only [Option.some.injEq, Prod.mk.injEq] at H
      obtain ⟨rfl, rfl, rfl, rfl⟩ := H
      go_enter Tryd.func36, Tryd.ntmps36
      go_wp2_with (first | ((with_reducible refine gate_callee (f := 45) rfl ?_); refine goesL_ (some 14) rfl rfl Tryd.func45 (by kernel_rfl) rfl #[.int .i64 a0] rfl (by (try simp only [List.map_toArray, List.map_cons, List.map_nil]); first | done | rfl | (simp only [List.length_drop, List.length_take]; rfl)) ?_; (with_reducible refine (word_Signed.calls a0 t220 _ A4.out).mono ?_); rintro e w' ⟨rfl, ⟨nd, rfl⟩⟩; refine ⟨_, rfl, ?_⟩) | ((with_reducible refine gate_callee (f := 46) rfl ?_); refine goesL_ (some 17) rfl rfl Tryd.func46 (by kernel_rfl) rfl #[.int .i64 a1] rfl (by (try simp only [List.map_toArray, List.map_cons, List.map_nil]); first | done | rfl | (simp only [List.length_drop, List.length_take]; rfl)) ?_; (with_reducible refine (word_Wrap.calls a1 t221 _ A5.out).mono ?_); rintro e w' ⟨rfl, ⟨nd, rfl⟩⟩; refine ⟨_, rfl, ?_⟩) | ((with_reducible refine gate_callee (f := 45) rfl ?_); refine goesL_ (some 20) rfl rfl Tryd.func45 (by kernel_rfl) rfl #[.int .i64 a2] rfl (by (try simp only [List.map_toArray, List.map_cons, List.map_nil]); first | done | rfl | (simp only [List.length_drop, List.length_take]; rfl)) ?_; (with_reducible refine (word_Signed.calls a2 t222 _ A6.out).mono ?_); rintro e w' ⟨rfl, ⟨nd, rfl⟩⟩; refine ⟨_, rfl, ?_⟩) | ((with_reducible refine gate_callee (f := 45) rfl ?_); refine goesL_ (some 28) rfl rfl Tryd.func45 (by kernel_rfl) rfl #[.int .i64 (wrap64 (Int.tdiv (wrap64 ((wrap64 (t220 * 65536)) + t221)) t222))] rfl (by (try simp only [List.map_toArray, List.map_cons, List.map_nil]); first | done | rfl | (simp only [List.length_drop, List.length_take]; rfl)) ?_; (with_reducible refine (word_Signed.calls (wrap64 (Int.tdiv (wrap64 ((wrap64 (t220 * 65536)) + t221)) t222)) t223 _ A8.out).mono ?_); rintro e w' ⟨rfl, ⟨nd, rfl⟩⟩; refine ⟨_, rfl, ?_⟩))
      refine bodyPost_ret (results_list (rs := [.tmp 6, .tmp 7, .tmp 8, .tmp 9]) rfl (by simp) (.tmp (.tmp (.tmp (.tmp .nil))))) rfl ?_
      exact ⟨by first | rfl | (simp [errW_none, errW_some] <;> rfl) | (simp [*, errW_none, errW_some] <;> rfl), by repeat (first | (with_reducible first | exact HB.out | exact Below.refl _ _ | apply below_alloc | apply pw_below_drewN | apply below_drew1) | exact HB.out)⟩

end Go.Proofs.YtfeflghimnbhiaaDoor.A
