-- Written by a program of this session (mp.py) over the kit's print.py, with proofs by hand for what the print does not take.
import Derived.Test.YtiodpkkigjfkgaaDoorAx0
import Derived.Test.YtiodpkkigjfkgaaDoorAx1
namespace Go.Proofs.YtiodpkkigjfkgaaDoor.A
open Go.RowKit Go.Proofs.YtiodpkkigjfkgaaDoorW.PrintWords Go.Proofs.YtiodpkkigjfkgaaDoorW.PrintLast Go.Proofs.YtiodpkkigjfkgaaDoorW.PrintMore
attribute [local go_sem] max2_int min2_int max_two min_two max_three min_three max_four min_four   -- for this text's walks alone
set_option linter.unusedVariables false
set_option linter.unusedSimpArgs false

/-! ### word_Wrap: function 25 -/
def word_Wrap.f (a0 : Int) : Option (Int) := some (Go.bits .and .i64 a0 65535)
set_option maxHeartbeats 8000000 in
set_option maxRecDepth 100000 in
theorem word_Wrap.calls (a0 : Int) (r : Int) (w : World) (h : word_Wrap.f a0 = some r) :
    Calls Tryd.prog 25 #[.int .i64 a0] w fun e w' => e = .returned (.int .i64 r) ∧ Drawn0 w w' := by
  have H : (some (Go.bits .and .i64 a0 65535)) = some r := h
  clear h
  obtain rfl := Option.some.inj H
  go_enter Tryd.func25, Tryd.ntmps25
  go_wp2
  go_ret
  exact ⟨by first | rfl | (simp; done) | (simp [*]; done), by repeat (first | exact Drawn0.refl _ | apply Drawn0.step)⟩

/-! ### word_Signed: function 27 -/
def word_Signed.f (a0 : Int) : Option (Int) := some (wrap64 (IntKind.i16.wrap (a0)))
set_option maxHeartbeats 8000000 in
set_option maxRecDepth 100000 in
theorem word_Signed.calls (a0 : Int) (r : Int) (w : World) (h : word_Signed.f a0 = some r) :
    Calls Tryd.prog 27 #[.int .i64 a0] w fun e w' => e = .returned (.int .i64 r) ∧ Drawn0 w w' := by
  have H : (some (wrap64 (IntKind.i16.wrap (a0)))) = some r := h
  clear h
  obtain rfl := Option.some.inj H
  go_enter Tryd.func27, Tryd.ntmps27
  go_wp2
  go_ret
  exact ⟨by first | rfl | (simp; done) | (simp [*]; done), by repeat (first | exact Drawn0.refl _ | apply Drawn0.step)⟩

/-! ### word_Mul: function 16 -/
def word_Mul.f (a0 : Int) (a1 : Int) : Option (Int × Int × Int) := (word_Signed.f a0).bind fun t138 => ((word_Signed.f a1).bind fun t139 => ((word_Wrap.f ((wrap64 (t138 * t139)) / 65536)).bind fun t140 => ((word_Wrap.f (wrap64 (t138 * t139))).bind fun t141 => ((word_when.f (decide ((wrap64 (t138 * t139)) < 0)) 8).bind fun t142 => ((word_when.f ((wrap64 (t138 * t139)) == 0) 4).bind fun t143 => ((word_Signed.f (wrap64 (t138 * t139))).bind fun t144 => ((word_when.f ((wrap64 (t138 * t139)) != t144) 1).bind fun t145 => (some (t140, t141, Go.bits .or .i64 (Go.bits .or .i64 t142 t143) t145)))))))))
set_option maxHeartbeats 8000000 in
set_option maxRecDepth 100000 in
theorem word_Mul.calls (a0 : Int) (a1 : Int) (r1 : Int) (r2 : Int) (r3 : Int) (w : World) (h : word_Mul.f a0 a1 = some (r1, r2, r3)) :
    Calls Tryd.prog 16 #[.int .i64 a0, .int .i64 a1] w fun e w' => e = .returned (.tuple #[.int .i64 r1, .int .i64 r2, .int .i64 r3]) ∧ Drawn0 w w' := by
  have H : ((word_Signed.f a0).bind fun t138 => ((word_Signed.f a1).bind fun t139 => ((word_Wrap.f ((wrap64 (t138 * t139)) / 65536)).bind fun t140 => ((word_Wrap.f (wrap64 (t138 * t139))).bind fun t141 => ((word_when.f (decide ((wrap64 (t138 * t139)) < 0)) 8).bind fun t142 => ((word_when.f ((wrap64 (t138 * t139)) == 0) 4).bind fun t143 => ((word_Signed.f (wrap64 (t138 * t139))).bind fun t144 => ((word_when.f ((wrap64 (t138 * t139)) != t144) 1).bind fun t145 => (some (t140, t141, Go.bits .or .i64 (Go.bits .or .i64 t142 t143) t145)))))))))) = some (r1, r2, r3) := h
  clear h
  replace H := Option.bind_eq_some_iff.mp H
  obtain ⟨t138, A30, H⟩ := H
  replace H : ((word_Signed.f a1).bind fun t139 => ((word_Wrap.f ((wrap64 (t138 * t139)) / 65536)).bind fun t140 => ((word_Wrap.f (wrap64 (t138 * t139))).bind fun t141 => ((word_when.f (decide ((wrap64 (t138 * t139)) < 0)) 8).bind fun t142 => ((word_when.f ((wrap64 (t138 * t139)) == 0) 4).bind fun t143 => ((word_Signed.f (wrap64 (t138 * t139))).bind fun t144 => ((word_when.f ((wrap64 (t138 * t139)) != t144) 1).bind fun t145 => (some (t140, t141, Go.bits .or .i64 (Go.bits .or .i64 t142 t143) t145))))))))) = some (r1, r2, r3) := H
  have A3 := Aside0.mk A30
  clear A30
  replace H := Option.bind_eq_some_iff.mp H
  obtain ⟨t139, A40, H⟩ := H
  replace H : ((word_Wrap.f ((wrap64 (t138 * t139)) / 65536)).bind fun t140 => ((word_Wrap.f (wrap64 (t138 * t139))).bind fun t141 => ((word_when.f (decide ((wrap64 (t138 * t139)) < 0)) 8).bind fun t142 => ((word_when.f ((wrap64 (t138 * t139)) == 0) 4).bind fun t143 => ((word_Signed.f (wrap64 (t138 * t139))).bind fun t144 => ((word_when.f ((wrap64 (t138 * t139)) != t144) 1).bind fun t145 => (some (t140, t141, Go.bits .or .i64 (Go.bits .or .i64 t142 t143) t145)))))))) = some (r1, r2, r3) := H
  have A4 := Aside0.mk A40
  clear A40
  replace H := Option.bind_eq_some_iff.mp H
  obtain ⟨t140, A50, H⟩ := H
  replace H : ((word_Wrap.f (wrap64 (t138 * t139))).bind fun t141 => ((word_when.f (decide ((wrap64 (t138 * t139)) < 0)) 8).bind fun t142 => ((word_when.f ((wrap64 (t138 * t139)) == 0) 4).bind fun t143 => ((word_Signed.f (wrap64 (t138 * t139))).bind fun t144 => ((word_when.f ((wrap64 (t138 * t139)) != t144) 1).bind fun t145 => (some (t140, t141, Go.bits .or .i64 (Go.bits .or .i64 t142 t143) t145))))))) = some (r1, r2, r3) := H
  have A5 := Aside0.mk A50
  clear A50
  replace H := Option.bind_eq_some_iff.mp H
  obtain ⟨t141, A60, H⟩ := H
  replace H : ((word_when.f (decide ((wrap64 (t138 * t139)) < 0)) 8).bind fun t142 => ((word_when.f ((wrap64 (t138 * t139)) == 0) 4).bind fun t143 => ((word_Signed.f (wrap64 (t138 * t139))).bind fun t144 => ((word_when.f ((wrap64 (t138 * t139)) != t144) 1).bind fun t145 => (some (t140, t141, Go.bits .or .i64 (Go.bits .or .i64 t142 t143) t145)))))) = some (r1, r2, r3) := H
  have A6 := Aside0.mk A60
  clear A60
  replace H := Option.bind_eq_some_iff.mp H
  obtain ⟨t142, A70, H⟩ := H
  replace H : ((word_when.f ((wrap64 (t138 * t139)) == 0) 4).bind fun t143 => ((word_Signed.f (wrap64 (t138 * t139))).bind fun t144 => ((word_when.f ((wrap64 (t138 * t139)) != t144) 1).bind fun t145 => (some (t140, t141, Go.bits .or .i64 (Go.bits .or .i64 t142 t143) t145))))) = some (r1, r2, r3) := H
  have A7 := Aside0.mk A70
  clear A70
  replace H := Option.bind_eq_some_iff.mp H
  obtain ⟨t143, A80, H⟩ := H
  replace H : ((word_Signed.f (wrap64 (t138 * t139))).bind fun t144 => ((word_when.f ((wrap64 (t138 * t139)) != t144) 1).bind fun t145 => (some (t140, t141, Go.bits .or .i64 (Go.bits .or .i64 t142 t143) t145)))) = some (r1, r2, r3) := H
  have A8 := Aside0.mk A80
  clear A80
  replace H := Option.bind_eq_some_iff.mp H
  obtain ⟨t144, A90, H⟩ := H
  replace H : ((word_when.f ((wrap64 (t138 * t139)) != t144) 1).bind fun t145 => (some (t140, t141, Go.bits .or .i64 (Go.bits .or .i64 t142 t143) t145))) = some (r1, r2, r3) := H
  have A9 := Aside0.mk A90
  clear A90
  replace H := Option.bind_eq_some_iff.mp H
  obtain ⟨t145, A100, H⟩ := H
  replace H : (some (t140, t141, Go.bits .or .i64 (Go.bits .or .i64 t142 t143) t145)) = some (r1, r2, r3) := H
  have A10 := Aside0.mk A100
  clear A100
  simp only [Option.some.injEq, Prod.mk.injEq] at H
  obtain ⟨rfl, rfl, rfl⟩ := H
  go_enter Tryd.func16, Tryd.ntmps16
  go_wp2_with (first | ((with_reducible refine gate_callee (f := 27) rfl ?_); refine goesL_ (some 9) rfl rfl Tryd.func27 (by kernel_rfl) rfl #[.int .i64 a0] rfl (by (try simp only [List.map_toArray, List.map_cons, List.map_nil]); first | done | rfl | (simp only [List.length_drop, List.length_take]; rfl)) ?_; (with_reducible refine (word_Signed.calls a0 t138 _ A3.out).mono ?_); rintro e w' ⟨rfl, ⟨nd, rfl⟩⟩; refine ⟨_, rfl, ?_⟩) | ((with_reducible refine gate_callee (f := 27) rfl ?_); refine goesL_ (some 11) rfl rfl Tryd.func27 (by kernel_rfl) rfl #[.int .i64 a1] rfl (by (try simp only [List.map_toArray, List.map_cons, List.map_nil]); first | done | rfl | (simp only [List.length_drop, List.length_take]; rfl)) ?_; (with_reducible refine (word_Signed.calls a1 t139 _ A4.out).mono ?_); rintro e w' ⟨rfl, ⟨nd, rfl⟩⟩; refine ⟨_, rfl, ?_⟩) | ((with_reducible refine gate_callee (f := 25) rfl ?_); refine goesL_ (some 15) rfl rfl Tryd.func25 (by kernel_rfl) rfl #[.int .i64 ((wrap64 (t138 * t139)) / 65536)] rfl (by (try simp only [List.map_toArray, List.map_cons, List.map_nil]); first | done | rfl | (simp only [List.length_drop, List.length_take]; rfl)) ?_; (with_reducible refine (word_Wrap.calls ((wrap64 (t138 * t139)) / 65536) t140 _ A5.out).mono ?_); rintro e w' ⟨rfl, ⟨nd, rfl⟩⟩; refine ⟨_, rfl, ?_⟩) | ((with_reducible refine gate_callee (f := 25) rfl ?_); refine goesL_ (some 17) rfl rfl Tryd.func25 (by kernel_rfl) rfl #[.int .i64 (wrap64 (t138 * t139))] rfl (by (try simp only [List.map_toArray, List.map_cons, List.map_nil]); first | done | rfl | (simp only [List.length_drop, List.length_take]; rfl)) ?_; (with_reducible refine (word_Wrap.calls (wrap64 (t138 * t139)) t141 _ A6.out).mono ?_); rintro e w' ⟨rfl, ⟨nd, rfl⟩⟩; refine ⟨_, rfl, ?_⟩) | ((with_reducible refine gate_callee (f := 34) rfl ?_); refine goesL_ (some 20) rfl rfl Tryd.func34 (by kernel_rfl) rfl #[.bool (decide ((wrap64 (t138 * t139)) < 0)), .int .i64 8] rfl (by (try simp only [List.map_toArray, List.map_cons, List.map_nil]); first | done | rfl | (simp only [List.length_drop, List.length_take]; rfl)) ?_; (with_reducible refine (word_when.calls (decide ((wrap64 (t138 * t139)) < 0)) 8 t142 _ A7.out).mono ?_); rintro e w' ⟨rfl, ⟨nd, rfl⟩⟩; refine ⟨_, rfl, ?_⟩) | ((with_reducible refine gate_callee (f := 34) rfl ?_); refine goesL_ (some 23) rfl rfl Tryd.func34 (by kernel_rfl) rfl #[.bool ((wrap64 (t138 * t139)) == 0), .int .i64 4] rfl (by (try simp only [List.map_toArray, List.map_cons, List.map_nil]); first | done | rfl | (simp only [List.length_drop, List.length_take]; rfl)) ?_; (with_reducible refine (word_when.calls ((wrap64 (t138 * t139)) == 0) 4 t143 _ A8.out).mono ?_); rintro e w' ⟨rfl, ⟨nd, rfl⟩⟩; refine ⟨_, rfl, ?_⟩) | ((with_reducible refine gate_callee (f := 27) rfl ?_); refine goesL_ (some 27) rfl rfl Tryd.func27 (by kernel_rfl) rfl #[.int .i64 (wrap64 (t138 * t139))] rfl (by (try simp only [List.map_toArray, List.map_cons, List.map_nil]); first | done | rfl | (simp only [List.length_drop, List.length_take]; rfl)) ?_; (with_reducible refine (word_Signed.calls (wrap64 (t138 * t139)) t144 _ A9.out).mono ?_); rintro e w' ⟨rfl, ⟨nd, rfl⟩⟩; refine ⟨_, rfl, ?_⟩) | ((with_reducible refine gate_callee (f := 34) rfl ?_); refine goesL_ (some 29) rfl rfl Tryd.func34 (by kernel_rfl) rfl #[.bool ((wrap64 (t138 * t139)) != t144), .int .i64 1] rfl (by (try simp only [List.map_toArray, List.map_cons, List.map_nil]); first | done | rfl | (simp only [List.length_drop, List.length_take]; rfl)) ?_; (with_reducible refine (word_when.calls ((wrap64 (t138 * t139)) != t144) 1 t145 _ A10.out).mono ?_); rintro e w' ⟨rfl, ⟨nd, rfl⟩⟩; refine ⟨_, rfl, ?_⟩))
  go_ret3
  exact ⟨by first | rfl | (simp; done) | (simp [*]; done), by repeat (first | exact Drawn0.refl _ | apply Drawn0.step)⟩

end Go.Proofs.YtiodpkkigjfkgaaDoor.A
