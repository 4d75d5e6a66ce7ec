-- Written by a program of this session (mp.py) over the kit's print.py, with proofs by hand for what the print does not take.
import Derived.Test.YtfeflghimnbhiaaDoorAx0
import Derived.Test.YtfeflghimnbhiaaDoorAx1
namespace Go.Proofs.YtfeflghimnbhiaaDoor.A
open Go.RowKit Go.Proofs.YtfeflghimnbhiaaDoorW.PrintWords Go.Proofs.YtfeflghimnbhiaaDoorW.PrintLast Go.Proofs.YtfeflghimnbhiaaDoorW.PrintMore
attribute [local go_sem] max2_int min2_int max_two min_two max_three min_three max_four min_four   -- for this text's walks alone
set_option linter.unusedVariables false
set_option linter.unusedSimpArgs false

/-! ### word_Rotate: function 30 -/
def word_Rotate.f (a0 : Int) (a1 : Int) (a2 : Bool) (a3 : Bool) : Option (Int × Int) := (word_of.f a3).bind fun bt172 => ((word_when.f ((Go.bits .and .i64 a1 1) == 1) bt172.2.1).bind fun t176 => (if a2 = true then ((word_when.f ((Go.bits .and .i64 (Go.bits .and .i64 a0 bt172.1) bt172.2.1) != 0) 1).bind fun t177 => ((word_Flags.f (Go.bits .and .i64 (Go.bits .or .i64 (wrap64 ((Go.bits .and .i64 a0 bt172.1) * 2)) (Go.bits .and .i64 a1 1)) bt172.1) a3).bind fun t178 => ((word_when.f (((Go.bits .and .i64 (Go.bits .or .i64 t178 t177) 8) != 0) != (t177 == 1)) 2).bind fun t179 => (some (Go.bits .and .i64 (Go.bits .or .i64 (wrap64 ((Go.bits .and .i64 a0 bt172.1) * 2)) (Go.bits .and .i64 a1 1)) bt172.1, Go.bits .or .i64 (Go.bits .or .i64 t178 t177) t179))))) else ((word_Flags.f (Go.bits .or .i64 ((Go.bits .and .i64 a0 bt172.1) / 2) t176) a3).bind fun t180 => ((word_when.f (((Go.bits .and .i64 (Go.bits .or .i64 t180 (Go.bits .and .i64 (Go.bits .and .i64 a0 bt172.1) 1)) 8) != 0) != ((Go.bits .and .i64 (Go.bits .and .i64 a0 bt172.1) 1) == 1)) 2).bind fun t181 => (some (Go.bits .or .i64 ((Go.bits .and .i64 a0 bt172.1) / 2) t176, Go.bits .or .i64 (Go.bits .or .i64 t180 (Go.bits .and .i64 (Go.bits .and .i64 a0 bt172.1) 1)) t181))))))
set_option maxHeartbeats 8000000 in
set_option maxRecDepth 100000 in
theorem word_Rotate.calls (a0 : Int) (a1 : Int) (a2 : Bool) (a3 : Bool) (r1 : Int) (r2 : Int) (w : World) (hS : Sz w) (h : word_Rotate.f a0 a1 a2 a3 = some (r1, r2)) :
    Calls Tryd.prog 30 #[.int .i64 a0, .int .i64 a1, .bool a2, .bool a3] w fun e w' => e = .returned (.tuple #[.int .i64 r1, .int .i64 r2]) ∧ Below w.heap.size w w' := by
  have hu49 := Tryd.underlying49
  have HB := Aside0.mk (Below.refl w.heap.size w)
  have H : ((word_of.f a3).bind fun bt172 => ((word_when.f ((Go.bits .and .i64 a1 1) == 1) bt172.2.1).bind fun t176 => (if a2 = true then ((word_when.f ((Go.bits .and .i64 (Go.bits .and .i64 a0 bt172.1) bt172.2.1) != 0) 1).bind fun t177 => ((word_Flags.f (Go.bits .and .i64 (Go.bits .or .i64 (wrap64 ((Go.bits .and .i64 a0 bt172.1) * 2)) (Go.bits .and .i64 a1 1)) bt172.1) a3).bind fun t178 => ((word_when.f (((Go.bits .and .i64 (Go.bits .or .i64 t178 t177) 8) != 0) != (t177 == 1)) 2).bind fun t179 => (some (Go.bits .and .i64 (Go.bits .or .i64 (wrap64 ((Go.bits .and .i64 a0 bt172.1) * 2)) (Go.bits .and .i64 a1 1)) bt172.1, Go.bits .or .i64 (Go.bits .or .i64 t178 t177) t179))))) else ((word_Flags.f (Go.bits .or .i64 ((Go.bits .and .i64 a0 bt172.1) / 2) t176) a3).bind fun t180 => ((word_when.f (((Go.bits .and .i64 (Go.bits .or .i64 t180 (Go.bits .and .i64 (Go.bits .and .i64 a0 bt172.1) 1)) 8) != 0) != ((Go.bits .and .i64 (Go.bits .and .i64 a0 bt172.1) 1) == 1)) 2).bind fun t181 => (some (Go.bits .or .i64 ((Go.bits .and .i64 a0 bt172.1) / 2) t176, Go.bits .or .i64 (Go.bits .or .i64 t180 (Go.bits .and .i64 (Go.bits .and .i64 a0 bt172.1) 1)) t181))))))) = some (r1, r2) := h
  clear h
  replace H := Option.bind_eq_some_iff.mp H
  obtain ⟨⟨t172, t173, t174⟩, A50, H⟩ := H
  replace H : ((word_when.f ((Go.bits .and .i64 a1 1) == 1) t173).bind fun t176 => (if a2 = true then ((word_when.f ((Go.bits .and .i64 (Go.bits .and .i64 a0 t172) t173) != 0) 1).bind fun t177 => ((word_Flags.f (Go.bits .and .i64 (Go.bits .or .i64 (wrap64 ((Go.bits .and .i64 a0 t172) * 2)) (Go.bits .and .i64 a1 1)) t172) a3).bind fun t178 => ((word_when.f (((Go.bits .and .i64 (Go.bits .or .i64 t178 t177) 8) != 0) != (t177 == 1)) 2).bind fun t179 => (some (Go.bits .and .i64 (Go.bits .or .i64 (wrap64 ((Go.bits .and .i64 a0 t172) * 2)) (Go.bits .and .i64 a1 1)) t172, Go.bits .or .i64 (Go.bits .or .i64 t178 t177) t179))))) else ((word_Flags.f (Go.bits .or .i64 ((Go.bits .and .i64 a0 t172) / 2) t176) a3).bind fun t180 => ((word_when.f (((Go.bits .and .i64 (Go.bits .or .i64 t180 (Go.bits .and .i64 (Go.bits .and .i64 a0 t172) 1)) 8) != 0) != ((Go.bits .and .i64 (Go.bits .and .i64 a0 t172) 1) == 1)) 2).bind fun t181 => (some (Go.bits .or .i64 ((Go.bits .and .i64 a0 t172) / 2) t176, Go.bits .or .i64 (Go.bits .or .i64 t180 (Go.bits .and .i64 (Go.bits .and .i64 a0 t172) 1)) t181)))))) = some (r1, r2) := H
  have A5 := Aside0.mk A50
  clear A50
  replace H := Option.bind_eq_some_iff.mp H
  obtain ⟨t176, A60, H⟩ := H
  replace H : (if a2 = true then ((word_when.f ((Go.bits .and .i64 (Go.bits .and .i64 a0 t172) t173) != 0) 1).bind fun t177 => ((word_Flags.f (Go.bits .and .i64 (Go.bits .or .i64 (wrap64 ((Go.bits .and .i64 a0 t172) * 2)) (Go.bits .and .i64 a1 1)) t172) a3).bind fun t178 => ((word_when.f (((Go.bits .and .i64 (Go.bits .or .i64 t178 t177) 8) != 0) != (t177 == 1)) 2).bind fun t179 => (some (Go.bits .and .i64 (Go.bits .or .i64 (wrap64 ((Go.bits .and .i64 a0 t172) * 2)) (Go.bits .and .i64 a1 1)) t172, Go.bits .or .i64 (Go.bits .or .i64 t178 t177) t179))))) else ((word_Flags.f (Go.bits .or .i64 ((Go.bits .and .i64 a0 t172) / 2) t176) a3).bind fun t180 => ((word_when.f (((Go.bits .and .i64 (Go.bits .or .i64 t180 (Go.bits .and .i64 (Go.bits .and .i64 a0 t172) 1)) 8) != 0) != ((Go.bits .and .i64 (Go.bits .and .i64 a0 t172) 1) == 1)) 2).bind fun t181 => (some (Go.bits .or .i64 ((Go.bits .and .i64 a0 t172) / 2) t176, Go.bits .or .i64 (Go.bits .or .i64 t180 (Go.bits .and .i64 (Go.bits .and .i64 a0 t172) 1)) t181))))) = some (r1, r2) := H
  have A6 := Aside0.mk A60
  clear A60
  by_cases c7 : a2 = true
  · subst c7
    have H1 : ((word_when.f ((Go.bits .and .i64 (Go.bits .and .i64 a0 t172) t173) != 0) 1).bind fun t177 => ((word_Flags.f (Go.bits .and .i64 (Go.bits .or .i64 (wrap64 ((Go.bits .and .i64 a0 t172) * 2)) (Go.bits .and .i64 a1 1)) t172) a3).bind fun t178 => ((word_when.f (((Go.bits .and .i64 (Go.bits .or .i64 t178 t177) 8) != 0) != (t177 == 1)) 2).bind fun t179 => (some (Go.bits .and .i64 (Go.bits .or .i64 (wrap64 ((Go.bits .and .i64 a0 t172) * 2)) (Go.bits .and .i64 a1 1)) t172, Go.bits .or .i64 (Go.bits .or .i64 t178 t177) t179))))) = some (r1, r2) := by rw [if_pos rfl] at H; exact H
    clear H
    have H := H1
    clear H1
    replace H := Option.bind_eq_some_iff.mp H
    obtain ⟨t177, A80, H⟩ := H
    replace H : ((word_Flags.f (Go.bits .and .i64 (Go.bits .or .i64 (wrap64 ((Go.bits .and .i64 a0 t172) * 2)) (Go.bits .and .i64 a1 1)) t172) a3).bind fun t178 => ((word_when.f (((Go.bits .and .i64 (Go.bits .or .i64 t178 t177) 8) != 0) != (t177 == 1)) 2).bind fun t179 => (some (Go.bits .and .i64 (Go.bits .or .i64 (wrap64 ((Go.bits .and .i64 a0 t172) * 2)) (Go.bits .and .i64 a1 1)) t172, Go.bits .or .i64 (Go.bits .or .i64 t178 t177) t179)))) = some (r1, r2) := H
    have A8 := Aside0.mk A80
    clear A80
    replace H := Option.bind_eq_some_iff.mp H
    obtain ⟨t178, A90, H⟩ := H
    replace H : ((word_when.f (((Go.bits .and .i64 (Go.bits .or .i64 t178 t177) 8) != 0) != (t177 == 1)) 2).bind fun t179 => (some (Go.bits .and .i64 (Go.bits .or .i64 (wrap64 ((Go.bits .and .i64 a0 t172) * 2)) (Go.bits .and .i64 a1 1)) t172, Go.bits .or .i64 (Go.bits .or .i64 t178 t177) t179))) = some (r1, r2) := H
    have A9 := Aside0.mk A90
    clear A90
    replace H := Option.bind_eq_some_iff.mp H
    obtain ⟨t179, A100, H⟩ := H
    replace H : (some (Go.bits .and .i64 (Go.bits .or .i64 (wrap64 ((Go.bits .and .i64 a0 t172) * 2)) (Go.bits .and .i64 a1 1)) t172, Go.bits .or .i64 (Go.bits .or .i64 t178 t177) t179)) = some (r1, r2) := H
    have A10 := Aside0.mk A100
    clear A100
    simp only [Option.some.injEq, Prod.mk.injEq] at H
    obtain ⟨rfl, rfl⟩ := H
    go_enter Tryd.func30, Tryd.ntmps30
    go_wp2_with (first | ((with_reducible refine gate_callee (f := 41) rfl ?_); refine goesL_ (some 15) rfl rfl Tryd.func41 (by kernel_rfl) rfl #[.bool a3] rfl (by (try simp only [List.map_toArray, List.map_cons, List.map_nil]); first | done | rfl | (simp only [List.length_drop, List.length_take]; rfl)) ?_; (with_reducible refine (word_of.calls a3 t172 t173 t174 _ (hS.go (by repeat (first | (with_reducible first | exact HB.out | apply below_alloc | apply pw_below_drewN | apply below_drew1) | exact HB.out))) A5.out).mono ?_); rintro e w11 ⟨rfl, hb⟩; refine ⟨_, rfl, ?_⟩; have n0_ := Aside0.mk (below_step (by repeat (first | (with_reducible first | exact HB.out | apply below_alloc | apply pw_below_drewN | apply below_drew1) | exact HB.out)) hb); clear HB; have HB := n0_; clear n0_; (try clear hb); (try clear hb2); (try clear hk); (try clear hi)) | ((with_reducible refine gate_dst (N := 10) rfl ?_); refine box_event ?hg (N := 10) ?hd (cs := #[.int .i64 0, .int .i64 0, .int .i64 0]) (t := 49) ?hr ?_; (case hd => rfl); (case hg => rfl); (case hr => first | (go_simp; done) | (go_simp; rfl)); intro gb175 hg w12 hbox hb; have n0_ := Aside0.mk (below_step (by repeat (first | (with_reducible first | exact HB.out | apply below_alloc | apply pw_below_drewN | apply below_drew1) | exact HB.out)) hb); have n1_ := Aside0.mk (hbox); have n2_ := Aside0.mk ((by rw [hg]; exact (below_size (by repeat (first | (with_reducible first | exact HB.out | apply below_alloc | apply pw_below_drewN | apply below_drew1) | exact HB.out))) : w.heap.size ≤ gb175)); have n3_ := Aside0.mk ((by rw [hg]; exact (below_size (by repeat (first | (with_reducible first | exact HB.out | apply below_alloc | apply pw_below_drewN | apply below_drew1) | exact HB.out))) : w.heap.size ≤ gb175)); clear HB; have HB := n0_; have BK175 := n1_; have GW175 := n2_; have GE175 := n3_; clear n0_ n1_ n2_ n3_; clear hb hbox hg; have hcz13_0 : w12.cell? ⟨gb175, 0, none⟩ = some (.int .i64 0) := (blk_cell BK175.out 0).trans rfl; have hcz13_1 : w12.cell? ⟨gb175, 1, none⟩ = some (.int .i64 0) := (blk_cell BK175.out 1).trans rfl; have hcz13_2 : w12.cell? ⟨gb175, 2, none⟩ = some (.int .i64 0) := (blk_cell BK175.out 2).trans rfl; have hfz13_0 := blk_frozen BK175.out 0; have hfz13_1 := blk_frozen BK175.out 1; have hfz13_2 := blk_frozen BK175.out 2) | ((with_reducible refine gate_callee (f := 42) rfl ?_); refine goesL_ (some 30) rfl rfl Tryd.func42 (by kernel_rfl) rfl #[.bool ((Go.bits .and .i64 a1 1) == 1), .int .i64 t173] rfl (by (try simp only [List.map_toArray, List.map_cons, List.map_nil]); first | done | rfl | (simp only [List.length_drop, List.length_take]; rfl)) ?_; (with_reducible refine (word_when.calls ((Go.bits .and .i64 a1 1) == 1) t173 t176 _ A6.out).mono ?_); rintro e w' ⟨rfl, ⟨nd, rfl⟩⟩; refine ⟨_, rfl, ?_⟩) | ((with_reducible refine gate_callee (f := 42) rfl ?_); refine goesL_ (some 38) rfl rfl Tryd.func42 (by kernel_rfl) rfl #[.bool ((Go.bits .and .i64 (Go.bits .and .i64 a0 t172) t173) != 0), .int .i64 1] rfl (by (try simp only [List.map_toArray, List.map_cons, List.map_nil]); first | done | rfl | (simp only [List.length_drop, List.length_take]; rfl)) ?_; (with_reducible refine (word_when.calls ((Go.bits .and .i64 (Go.bits .and .i64 a0 t172) t173) != 0) 1 t177 _ A8.out).mono ?_); rintro e w' ⟨rfl, ⟨nd, rfl⟩⟩; refine ⟨_, rfl, ?_⟩) | ((with_reducible refine gate_callee (f := 27) rfl ?_); refine goesL_ (some 48) rfl rfl Tryd.func27 (by kernel_rfl) rfl #[.int .i64 (Go.bits .and .i64 (Go.bits .or .i64 (wrap64 ((Go.bits .and .i64 a0 t172) * 2)) (Go.bits .and .i64 a1 1)) t172), .bool a3] rfl (by (try simp only [List.map_toArray, List.map_cons, List.map_nil]); first | done | rfl | (simp only [List.length_drop, List.length_take]; rfl)) ?_; (with_reducible refine (word_Flags.calls (Go.bits .and .i64 (Go.bits .or .i64 (wrap64 ((Go.bits .and .i64 a0 t172) * 2)) (Go.bits .and .i64 a1 1)) t172) a3 t178 _ (hS.go (by repeat (first | (with_reducible first | exact HB.out | apply below_alloc | apply pw_below_drewN | apply below_drew1 | refine below_set ?_ GE175.out) | exact HB.out))) A9.out).mono ?_); rintro e w14 ⟨rfl, hb⟩; refine ⟨_, rfl, ?_⟩; have n0_ := Aside0.mk (blk_below (g := gb175) (o := .cells #[.int .i64 t172, .int .i64 t173, .int .i64 t174] 49 (0, 0)) (by (with_reducible repeat (first | refine blk_drewN ?_ _ | refine blk_drew ?_ | refine blk_alloc ?_ _)); refine blk_put (cs := #[.int .i64 t172, .int .i64 t173, .int .i64 0]) ?_ 2 _ rfl; (with_reducible repeat (first | refine blk_drewN ?_ _ | refine blk_drew ?_ | refine blk_alloc ?_ _)); refine blk_put (cs := #[.int .i64 t172, .int .i64 0, .int .i64 0]) ?_ 1 _ rfl; (with_reducible repeat (first | refine blk_drewN ?_ _ | refine blk_drew ?_ | refine blk_alloc ?_ _)); refine blk_put (cs := #[.int .i64 0, .int .i64 0, .int .i64 0]) ?_ 0 _ rfl; (with_reducible repeat (first | refine blk_drewN ?_ _ | refine blk_drew ?_ | refine blk_alloc ?_ _)); exact BK175.out) hb); have n1_ := Aside0.mk (below_step (by repeat (first | (with_reducible first | exact HB.out | apply below_alloc | apply pw_below_drewN | apply below_drew1 | refine below_set ?_ GE175.out) | exact HB.out)) hb); clear BK175; clear HB; have BK175 := n0_; have HB := n1_; clear n0_ n1_; (try clear hb); (try clear hb2); (try clear hk); (try clear hi)) | ((with_reducible refine gate_callee (f := 42) rfl ?_); refine goesL_ (some 59) rfl rfl Tryd.func42 (by kernel_rfl) rfl #[.bool (((Go.bits .and .i64 (Go.bits .or .i64 t178 t177) 8) != 0) != (t177 == 1)), .int .i64 2] rfl (by (try simp only [List.map_toArray, List.map_cons, List.map_nil]); first | done | rfl | (simp only [List.length_drop, List.length_take]; rfl)) ?_; (with_reducible refine (word_when.calls (((Go.bits .and .i64 (Go.bits .or .i64 t178 t177) 8) != 0) != (t177 == 1)) 2 t179 _ A10.out).mono ?_); rintro e w' ⟨rfl, ⟨nd, rfl⟩⟩; refine ⟨_, rfl, ?_⟩))
    go_ret2
    exact ⟨by first | rfl | (simp [errW_none, errW_some] <;> rfl) | (simp [*, errW_none, errW_some] <;> rfl), by repeat (first | (with_reducible first | exact HB.out | apply below_alloc | apply pw_below_drewN | apply below_drew1 | refine below_set ?_ GE175.out) | exact HB.out)⟩
  · replace c7 := Bool.eq_false_iff.mpr c7
    subst c7
    have H1 : ((word_Flags.f (Go.bits .or .i64 ((Go.bits .and .i64 a0 t172) / 2) t176) a3).bind fun t180 => ((word_when.f (((Go.bits .and .i64 (Go.bits .or .i64 t180 (Go.bits .and .i64 (Go.bits .and .i64 a0 t172) 1)) 8) != 0) != ((Go.bits .and .i64 (Go.bits .and .i64 a0 t172) 1) == 1)) 2).bind fun t181 => (some (Go.bits .or .i64 ((Go.bits .and .i64 a0 t172) / 2) t176, Go.bits .or .i64 (Go.bits .or .i64 t180 (Go.bits .and .i64 (Go.bits .and .i64 a0 t172) 1)) t181)))) = some (r1, r2) := by rw [if_neg (show ¬ (false = true) by decide)] at H; exact H
    clear H
    have H := H1
    clear H1
    replace H := Option.bind_eq_some_iff.mp H
    obtain ⟨t180, A150, H⟩ := H
    replace H : ((word_when.f (((Go.bits .and .i64 (Go.bits .or .i64 t180 (Go.bits .and .i64 (Go.bits .and .i64 a0 t172) 1)) 8) != 0) != ((Go.bits .and .i64 (Go.bits .and .i64 a0 t172) 1) == 1)) 2).bind fun t181 => (some (Go.bits .or .i64 ((Go.bits .and .i64 a0 t172) / 2) t176, Go.bits .or .i64 (Go.bits .or .i64 t180 (Go.bits .and .i64 (Go.bits .and .i64 a0 t172) 1)) t181))) = some (r1, r2) := H
    have A15 := Aside0.mk A150
    clear A150
    replace H := Option.bind_eq_some_iff.mp H
    obtain ⟨t181, A160, H⟩ := H
    replace H : (some (Go.bits .or .i64 ((Go.bits .and .i64 a0 t172) / 2) t176, Go.bits .or .i64 (Go.bits .or .i64 t180 (Go.bits .and .i64 (Go.bits .and .i64 a0 t172) 1)) t181)) = some (r1, r2) := H
    have A16 := Aside0.mk A160
    clear A160
    simp only [Option.some.injEq, Prod.mk.injEq] at H
    obtain ⟨rfl, rfl⟩ := H
    go_enter Tryd.func30, Tryd.ntmps30
    go_wp2_with (first | ((with_reducible refine gate_callee (f := 41) rfl ?_); refine goesL_ (some 15) rfl rfl Tryd.func41 (by kernel_rfl) rfl #[.bool a3] rfl (by (try simp only [List.map_toArray, List.map_cons, List.map_nil]); first | done | rfl | (simp only [List.length_drop, List.length_take]; rfl)) ?_; (with_reducible refine (word_of.calls a3 t172 t173 t174 _ (hS.go (by repeat (first | (with_reducible first | exact HB.out | apply below_alloc | apply pw_below_drewN | apply below_drew1) | exact HB.out))) A5.out).mono ?_); rintro e w17 ⟨rfl, hb⟩; refine ⟨_, rfl, ?_⟩; have n0_ := Aside0.mk (below_step (by repeat (first | (with_reducible first | exact HB.out | apply below_alloc | apply pw_below_drewN | apply below_drew1) | exact HB.out)) hb); clear HB; have HB := n0_; clear n0_; (try clear hb); (try clear hb2); (try clear hk); (try clear hi)) | ((with_reducible refine gate_dst (N := 10) rfl ?_); refine box_event ?hg (N := 10) ?hd (cs := #[.int .i64 0, .int .i64 0, .int .i64 0]) (t := 49) ?hr ?_; (case hd => rfl); (case hg => rfl); (case hr => first | (go_simp; done) | (go_simp; rfl)); intro gb175 hg w18 hbox hb; have n0_ := Aside0.mk (below_step (by repeat (first | (with_reducible first | exact HB.out | apply below_alloc | apply pw_below_drewN | apply below_drew1) | exact HB.out)) hb); have n1_ := Aside0.mk (hbox); have n2_ := Aside0.mk ((by rw [hg]; exact (below_size (by repeat (first | (with_reducible first | exact HB.out | apply below_alloc | apply pw_below_drewN | apply below_drew1) | exact HB.out))) : w.heap.size ≤ gb175)); have n3_ := Aside0.mk ((by rw [hg]; exact (below_size (by repeat (first | (with_reducible first | exact HB.out | apply below_alloc | apply pw_below_drewN | apply below_drew1) | exact HB.out))) : w.heap.size ≤ gb175)); clear HB; have HB := n0_; have BK175 := n1_; have GW175 := n2_; have GE175 := n3_; clear n0_ n1_ n2_ n3_; clear hb hbox hg; have hcz19_0 : w18.cell? ⟨gb175, 0, none⟩ = some (.int .i64 0) := (blk_cell BK175.out 0).trans rfl; have hcz19_1 : w18.cell? ⟨gb175, 1, none⟩ = some (.int .i64 0) := (blk_cell BK175.out 1).trans rfl; have hcz19_2 : w18.cell? ⟨gb175, 2, none⟩ = some (.int .i64 0) := (blk_cell BK175.out 2).trans rfl; have hfz19_0 := blk_frozen BK175.out 0; have hfz19_1 := blk_frozen BK175.out 1; have hfz19_2 := blk_frozen BK175.out 2) | ((with_reducible refine gate_callee (f := 42) rfl ?_); refine goesL_ (some 30) rfl rfl Tryd.func42 (by kernel_rfl) rfl #[.bool ((Go.bits .and .i64 a1 1) == 1), .int .i64 t173] rfl (by (try simp only [List.map_toArray, List.map_cons, List.map_nil]); first | done | rfl | (simp only [List.length_drop, List.length_take]; rfl)) ?_; (with_reducible refine (word_when.calls ((Go.bits .and .i64 a1 1) == 1) t173 t176 _ A6.out).mono ?_); rintro e w' ⟨rfl, ⟨nd, rfl⟩⟩; refine ⟨_, rfl, ?_⟩) | ((with_reducible refine gate_callee (f := 27) rfl ?_); refine goesL_ (some 48) rfl rfl Tryd.func27 (by kernel_rfl) rfl #[.int .i64 (Go.bits .or .i64 ((Go.bits .and .i64 a0 t172) / 2) t176), .bool a3] rfl (by (try simp only [List.map_toArray, List.map_cons, List.map_nil]); first | done | rfl | (simp only [List.length_drop, List.length_take]; rfl)) ?_; (with_reducible refine (word_Flags.calls (Go.bits .or .i64 ((Go.bits .and .i64 a0 t172) / 2) t176) a3 t180 _ (hS.go (by repeat (first | (with_reducible first | exact HB.out | apply below_alloc | apply pw_below_drewN | apply below_drew1 | refine below_set ?_ GE175.out) | exact HB.out))) A15.out).mono ?_); rintro e w20 ⟨rfl, hb⟩; refine ⟨_, rfl, ?_⟩; have n0_ := Aside0.mk (blk_below (g := gb175) (o := .cells #[.int .i64 t172, .int .i64 t173, .int .i64 t174] 49 (0, 0)) (by (with_reducible repeat (first | refine blk_drewN ?_ _ | refine blk_drew ?_ | refine blk_alloc ?_ _)); refine blk_put (cs := #[.int .i64 t172, .int .i64 t173, .int .i64 0]) ?_ 2 _ rfl; (with_reducible repeat (first | refine blk_drewN ?_ _ | refine blk_drew ?_ | refine blk_alloc ?_ _)); refine blk_put (cs := #[.int .i64 t172, .int .i64 0, .int .i64 0]) ?_ 1 _ rfl; (with_reducible repeat (first | refine blk_drewN ?_ _ | refine blk_drew ?_ | refine blk_alloc ?_ _)); refine blk_put (cs := #[.int .i64 0, .int .i64 0, .int .i64 0]) ?_ 0 _ rfl; (with_reducible repeat (first | refine blk_drewN ?_ _ | refine blk_drew ?_ | refine blk_alloc ?_ _)); exact BK175.out) hb); have n1_ := Aside0.mk (below_step (by repeat (first | (with_reducible first | exact HB.out | apply below_alloc | apply pw_below_drewN | apply below_drew1 | refine below_set ?_ GE175.out) | exact HB.out)) hb); clear BK175; clear HB; have BK175 := n0_; have HB := n1_; clear n0_ n1_; (try clear hb); (try clear hb2); (try clear hk); (try clear hi)) | ((with_reducible refine gate_callee (f := 42) rfl ?_); refine goesL_ (some 59) rfl rfl Tryd.func42 (by kernel_rfl) rfl #[.bool (((Go.bits .and .i64 (Go.bits .or .i64 t180 (Go.bits .and .i64 (Go.bits .and .i64 a0 t172) 1)) 8) != 0) != ((Go.bits .and .i64 (Go.bits .and .i64 a0 t172) 1) == 1)), .int .i64 2] rfl (by (try simp only [List.map_toArray, List.map_cons, List.map_nil]); first | done | rfl | (simp only [List.length_drop, List.length_take]; rfl)) ?_; (with_reducible refine (word_when.calls (((Go.bits .and .i64 (Go.bits .or .i64 t180 (Go.bits .and .i64 (Go.bits .and .i64 a0 t172) 1)) 8) != 0) != ((Go.bits .and .i64 (Go.bits .and .i64 a0 t172) 1) == 1)) 2 t181 _ A16.out).mono ?_); rintro e w' ⟨rfl, ⟨nd, rfl⟩⟩; refine ⟨_, rfl, ?_⟩))
    go_ret2
    exact ⟨by first | rfl | (simp [errW_none, errW_some] <;> rfl) | (simp [*, errW_none, errW_some] <;> rfl), by repeat (first | (with_reducible first | exact HB.out | apply below_alloc | apply pw_below_drewN | apply below_drew1 | refine below_set ?_ GE175.out) | exact HB.out)⟩

/-! ### alu_moved: function 31 -/
def alu_moved.f (a0 : Int) (a1 : Int) (a2 : Bool) : Option (Int) := (word_Flags.f a0 a2).bind fun t182 => (if (((Go.bits .and .i64 (Go.bits .or .i64 t182 a1) 8) != 0) != (a1 == 1)) = true then (some (Go.bits .or .i64 (Go.bits .or .i64 t182 a1) 2)) else (some (Go.bits .or .i64 t182 a1)))
set_option maxHeartbeats 8000000 in
set_option maxRecDepth 100000 in
theorem alu_moved.calls (a0 : Int) (a1 : Int) (a2 : Bool) (r : Int) (w : World) (hS : Sz w) (h : alu_moved.f a0 a1 a2 = some r) :
    Calls Tryd.prog 31 #[.int .i64 a0, .int .i64 a1, .bool a2] w fun e w' => e = .returned (.int .i64 r) ∧ Below w.heap.size w w' := by
  have HB := Aside0.mk (Below.refl w.heap.size w)
  have H : ((word_Flags.f a0 a2).bind fun t182 => (if (((Go.bits .and .i64 (Go.bits .or .i64 t182 a1) 8) != 0) != (a1 == 1)) = true then (some (Go.bits .or .i64 (Go.bits .or .i64 t182 a1) 2)) else (some (Go.bits .or .i64 t182 a1)))) = some r := h
  clear h
  replace H := Option.bind_eq_some_iff.mp H
  obtain ⟨t182, A40, H⟩ := H
  replace H : (if (((Go.bits .and .i64 (Go.bits .or .i64 t182 a1) 8) != 0) != (a1 == 1)) = true then (some (Go.bits .or .i64 (Go.bits .or .i64 t182 a1) 2)) else (some (Go.bits .or .i64 t182 a1))) = some r := H
  have A4 := Aside0.mk A40
  clear A40
  by_cases c5 : (((Go.bits .and .i64 (Go.bits .or .i64 t182 a1) 8) != 0) != (a1 == 1)) = true
  · rw [if_pos c5] at H
    have c5b0 : (((Go.bits .and .i64 (Go.bits .or .i64 t182 a1) 8) != 0) != (a1 == 1)) = true := c5
    (try (have c5b1 : decide (((Go.bits .and .i64 (Go.bits .or .i64 t182 a1) 8) != 0) = (a1 == 1)) = false := by simpa using c5))
    (try (have c5b2 : (((Go.bits .and .i64 (Go.bits .or .i64 t182 a1) 8) != 0) == (a1 == 1)) = false := by simpa using c5))
    (try (have c5b3 : ¬ (((Go.bits .and .i64 (Go.bits .or .i64 t182 a1) 8) != 0) = (a1 == 1)) := by simpa using c5))
    clear c5
    obtain rfl := Option.some.inj H
    go_enter Tryd.func31, Tryd.ntmps31
    go_wp2_with (first | ((with_reducible refine gate_callee (f := 27) rfl ?_); refine goesL_ (some 10) rfl rfl Tryd.func27 (by kernel_rfl) rfl #[.int .i64 a0, .bool a2] rfl (by (try simp only [List.map_toArray, List.map_cons, List.map_nil]); first | done | rfl | (simp only [List.length_drop, List.length_take]; rfl)) ?_; (with_reducible refine (word_Flags.calls a0 a2 t182 _ (hS.go (by repeat (first | (with_reducible first | exact HB.out | apply below_alloc | apply pw_below_drewN | apply below_drew1) | exact HB.out))) A4.out).mono ?_); rintro e w6 ⟨rfl, hb⟩; refine ⟨_, rfl, ?_⟩; have n0_ := Aside0.mk (below_step (by repeat (first | (with_reducible first | exact HB.out | apply below_alloc | apply pw_below_drewN | apply below_drew1) | exact HB.out)) hb); clear HB; have HB := n0_; clear n0_; (try clear hb); (try clear hb2); (try clear hk); (try clear hi)))
    go_ret
    exact ⟨by first | rfl | (simp [errW_none, errW_some] <;> rfl) | (simp [*, errW_none, errW_some] <;> rfl), by repeat (first | (with_reducible first | exact HB.out | apply below_alloc | apply pw_below_drewN | apply below_drew1) | exact HB.out)⟩
  · rw [if_neg c5] at H
    have c5b0 : (((Go.bits .and .i64 (Go.bits .or .i64 t182 a1) 8) != 0) != (a1 == 1)) = false := by simpa using c5
    (try (have c5b1 : decide (((Go.bits .and .i64 (Go.bits .or .i64 t182 a1) 8) != 0) = (a1 == 1)) = true := by simpa using c5))
    (try (have c5b2 : (((Go.bits .and .i64 (Go.bits .or .i64 t182 a1) 8) != 0) == (a1 == 1)) = true := by simpa using c5))
    clear c5
    obtain rfl := Option.some.inj H
    go_enter Tryd.func31, Tryd.ntmps31
    go_wp2_with (first | ((with_reducible refine gate_callee (f := 27) rfl ?_); refine goesL_ (some 10) rfl rfl Tryd.func27 (by kernel_rfl) rfl #[.int .i64 a0, .bool a2] rfl (by (try simp only [List.map_toArray, List.map_cons, List.map_nil]); first | done | rfl | (simp only [List.length_drop, List.length_take]; rfl)) ?_; (with_reducible refine (word_Flags.calls a0 a2 t182 _ (hS.go (by repeat (first | (with_reducible first | exact HB.out | apply below_alloc | apply pw_below_drewN | apply below_drew1) | exact HB.out))) A4.out).mono ?_); rintro e w7 ⟨rfl, hb⟩; refine ⟨_, rfl, ?_⟩; have n0_ := Aside0.mk (below_step (by repeat (first | (with_reducible first | exact HB.out | apply below_alloc | apply pw_below_drewN | apply below_drew1) | exact HB.out)) hb); clear HB; have HB := n0_; clear n0_; (try clear hb); (try clear hb2); (try clear hk); (try clear hi)))
    go_ret
    exact ⟨by first | rfl | (simp [errW_none, errW_some] <;> rfl) | (simp [*, errW_none, errW_some] <;> rfl), by repeat (first | (with_reducible first | exact HB.out | apply below_alloc | apply pw_below_drewN | apply below_drew1) | exact HB.out)⟩

/-! ### alu_wordOnly: function 32 -/
def alu_wordOnly.j0 : Nat → Int → Int → Bool → Option (Int × Int × Bool)
  | 0, _, _, _ => none
  | k + 1, x0, x3, x26 => if x26 = true then (some (65535, Go.bits .or .i64 8 (Go.bits .and .i64 x3 1), true)) else (if x0 = 25 then (some (0, Go.bits .or .i64 4 (Go.bits .and .i64 x3 1), true)) else (some (0, 0, false)))
def alu_wordOnly.f (k : Nat) (a0 : Int) (a1 : Bool) (a2 : Int) (a3 : Int) : Option (Int × Int × Bool) := if a1 = true then (some (0, 0, false)) else (if a0 = 24 then ((word_Flags.f (Go.bits .or .i64 (a2 / 256) (wrap64 ((Go.bits .and .i64 a2 255) * 256))) true).bind fun t183 => (some (Go.bits .or .i64 (a2 / 256) (wrap64 ((Go.bits .and .i64 a2 255) * 256)), t183, true))) else (if a0 = 25 then (alu_wordOnly.j0 k a0 a3 ((Go.bits .and .i64 a3 8) != 0)) else (alu_wordOnly.j0 k a0 a3 false)))
theorem alu_wordOnly.mono_l : ∀ k, (∀ y0 y1 y2, LeO (alu_wordOnly.j0 k y0 y1 y2) (alu_wordOnly.j0 (k + 1) y0 y1 y2))
  | 0 => fun _ _ _ r h => by simp [alu_wordOnly.j0] at h
  | k + 1 => by
    have ih0 := alu_wordOnly.mono_l k
    · intro y0 y1 y2
      unfold alu_wordOnly.j0
      repeat' first
      | (with_reducible exact ih0 _ _ _)
      | (with_reducible exact LeO.refl _)
      | (with_reducible exact LeO.none _)
      | (with_reducible refine LeO.ite ?_ ?_)
      | (with_reducible refine LeO.bind ?_ (fun _ => ?_))
      | exact ih0 _ _ _
      | exact LeO.none _
      | refine LeO.ite ?_ ?_
      | refine LeO.bind ?_ (fun _ => ?_)
theorem alu_wordOnly.mono : ∀ a0 a1 a2 a3 k, LeO (alu_wordOnly.f k a0 a1 a2 a3) (alu_wordOnly.f (k + 1) a0 a1 a2 a3) := by
  intro a0 a1 a2 a3 k
  have ih0 := alu_wordOnly.mono_l k
  unfold alu_wordOnly.f
  repeat' first
      | (with_reducible exact ih0 _ _ _)
      | (with_reducible exact LeO.refl _)
      | (with_reducible exact LeO.none _)
      | (with_reducible refine LeO.ite ?_ ?_)
      | (with_reducible refine LeO.bind ?_ (fun _ => ?_))
      | exact ih0 _ _ _
      | exact LeO.none _
      | refine LeO.ite ?_ ?_
      | refine LeO.bind ?_ (fun _ => ?_)
set_option maxHeartbeats 8000000 in
set_option maxRecDepth 100000 in
theorem alu_wordOnly.calls (k : Nat) (a0 : Int) (a1 : Bool) (a2 : Int) (a3 : Int) (r1 : Int) (r2 : Int) (r3 : Bool) (w : World) (hS : Sz w) (h : alu_wordOnly.f k a0 a1 a2 a3 = some (r1, r2, r3)) :
    Calls Tryd.prog 32 #[.int .i64 a0, .bool a1, .int .i64 a2, .int .i64 a3] w fun e w' => e = .returned (.tuple #[.int .i64 r1, .int .i64 r2, .bool r3]) ∧ Below w.heap.size w w' := by
  have HB := Aside0.mk (Below.refl w.heap.size w)
  have H : (if a1 = true then (some (0, 0, false)) else (if a0 = 24 then ((word_Flags.f (Go.bits .or .i64 (a2 / 256) (wrap64 ((Go.bits .and .i64 a2 255) * 256))) true).bind fun t183 => (some (Go.bits .or .i64 (a2 / 256) (wrap64 ((Go.bits .and .i64 a2 255) * 256)), t183, true))) else (if a0 = 25 then (alu_wordOnly.j0 k a0 a3 ((Go.bits .and .i64 a3 8) != 0)) else (alu_wordOnly.j0 k a0 a3 false)))) = some (r1, r2, r3) := h
  clear h
  by_cases c5 : a1 = true
  · subst c5
    have H1 : (some (0, 0, false)) = some (r1, r2, r3) := by rw [if_pos rfl] at H; exact H
    clear H
    have H := H1
    clear H1
    simp only [Option.some.injEq, Prod.mk.injEq] at H
    obtain ⟨rfl, rfl, rfl⟩ := H
    go_enter Tryd.func32, Tryd.ntmps32
    go_wp2
    go_ret3
    exact ⟨by first | rfl | (simp [errW_none, errW_some] <;> rfl) | (simp [*, errW_none, errW_some] <;> rfl), by repeat (first | (with_reducible first | exact HB.out | apply below_alloc | apply pw_below_drewN | apply below_drew1) | exact HB.out)⟩
  · replace c5 := Bool.eq_false_iff.mpr c5
    subst c5
    have H1 : (if a0 = 24 then ((word_Flags.f (Go.bits .or .i64 (a2 / 256) (wrap64 ((Go.bits .and .i64 a2 255) * 256))) true).bind fun t183 => (some (Go.bits .or .i64 (a2 / 256) (wrap64 ((Go.bits .and .i64 a2 255) * 256)), t183, true))) else (if a0 = 25 then (alu_wordOnly.j0 k a0 a3 ((Go.bits .and .i64 a3 8) != 0)) else (alu_wordOnly.j0 k a0 a3 false))) = some (r1, r2, r3) := by rw [if_neg (show ¬ (false = true) by decide)] at H; exact H
    clear H
    have H := H1
    clear H1
    by_cases c6 : a0 = 24
    · rw [if_pos c6] at H
      have c6b0 : (a0 == 24) = true := beq_iff_eq.mpr c6
      have c6b1 : (a0 != 24) = false := bne_eq_false_iff_eq.mpr c6
      clear c6
      replace H := Option.bind_eq_some_iff.mp H
      obtain ⟨t183, A70, H⟩ := H
      replace H : (some (Go.bits .or .i64 (a2 / 256) (wrap64 ((Go.bits .and .i64 a2 255) * 256)), t183, true)) = some (r1, r2, r3) := H
      have A7 := Aside0.mk A70
      clear A70
      simp only [Option.some.injEq, Prod.mk.injEq] at H
      obtain ⟨rfl, rfl, rfl⟩ := H
      go_enter Tryd.func32, Tryd.ntmps32
      go_wp2_with (first | ((with_reducible refine gate_callee (f := 27) rfl ?_); refine goesL_ (some 25) rfl rfl Tryd.func27 (by kernel_rfl) rfl #[.int .i64 (Go.bits .or .i64 (a2 / 256) (wrap64 ((Go.bits .and .i64 a2 255) * 256))), .bool true] rfl (by (try simp only [List.map_toArray, List.map_cons, List.map_nil]); first | done | rfl | (simp only [List.length_drop, List.length_take]; rfl)) ?_; (with_reducible refine (word_Flags.calls (Go.bits .or .i64 (a2 / 256) (wrap64 ((Go.bits .and .i64 a2 255) * 256))) true t183 _ (hS.go (by repeat (first | (with_reducible first | exact HB.out | apply below_alloc | apply pw_below_drewN | apply below_drew1) | exact HB.out))) A7.out).mono ?_); rintro e w8 ⟨rfl, hb⟩; refine ⟨_, rfl, ?_⟩; have n0_ := Aside0.mk (below_step (by repeat (first | (with_reducible first | exact HB.out | apply below_alloc | apply pw_below_drewN | apply below_drew1) | exact HB.out)) hb); clear HB; have HB := n0_; clear n0_; (try clear hb); (try clear hb2); (try clear hk); (try clear hi)))
      go_ret3
      exact ⟨by first | rfl | (simp [errW_none, errW_some] <;> rfl) | (simp [*, errW_none, errW_some] <;> rfl), by repeat (first | (with_reducible first | exact HB.out | apply below_alloc | apply pw_below_drewN | apply below_drew1) | exact HB.out)⟩
    · rw [if_neg c6] at H
      have c6b0 : (a0 == 24) = false := beq_eq_false_iff_ne.mpr c6
      have c6b1 : (a0 != 24) = true := bne_iff_ne.mpr c6
      have HC9 := Aside0.mk H
      clear H
      go_enter Tryd.func32, Tryd.ntmps32
      go_upto_region 6 with (fail)
      go_cut [26] (fun v26 wc => ∃ (kq : Nat) (x26_8 : Bool), v26 = .bool x26_8 ∧ Aside0 (alu_wordOnly.j0 kq a0 a3 x26_8 = some (r1, r2, r3)) ∧ Aside0 (kq ≤ k) ∧ Aside0 (Below w.heap.size w wc))
      case first =>
        have H := HC9.out
        clear HC9
        by_cases c10 : a0 = 25
        · rw [if_pos c10] at H
          have c10b0 : (a0 == 25) = true := beq_iff_eq.mpr c10
          have c10b1 : (a0 != 25) = false := bne_eq_false_iff_eq.mpr c10
          clear c10
          (first | rw [c10b0] | (simp only [i64_w, i32_w]; rw [c10b0]) | skip)
          have H' := Aside0.mk H
          clear H
          go_wp2
          go_meet
          case rel => exact ⟨_, (((Go.bits .and .i64 a3 8) != 0)), (by first | rfl | (simp; done) | (simp [*]; done)), H', ⟨by first | omega | exact Nat.le_refl _⟩, ⟨by repeat (first | (with_reducible first | exact HB.out | apply below_alloc | apply pw_below_drewN | apply below_drew1) | exact HB.out)⟩⟩
        · rw [if_neg c10] at H
          have c10b0 : (a0 == 25) = false := beq_eq_false_iff_ne.mpr c10
          have c10b1 : (a0 != 25) = true := bne_iff_ne.mpr c10
          (first | rw [c10b0] | (simp only [i64_w, i32_w]; rw [c10b0]) | skip)
          have H' := Aside0.mk H
          clear H
          go_wp2
          go_meet
          case rel => exact ⟨_, (false), (by first | rfl | (simp; done) | (simp [*]; done)), H', ⟨by first | omega | exact Nat.le_refl _⟩, ⟨by repeat (first | (with_reducible first | exact HB.out | apply below_alloc | apply pw_below_drewN | apply below_drew1) | exact HB.out)⟩⟩
      case rest =>
        clear HC9
        try clear c1
        try clear c2
        try clear p2
        try clear c3
        try clear c5
        try clear c6
        try clear c6b0
        try clear c6b1
        try clear p6
        try clear c10
        try clear c10b0
        try clear c10b1
        obtain ⟨kq, x26_8, rfl, HA, HJ8, HB⟩ := hcut
        cases kq with
        | zero => exact absurd HA.out (by simp [alu_wordOnly.j0])
        | succ kj8 =>
          have H := HA.out
          clear HA
          simp only [alu_wordOnly.j0] at H
          by_cases c11 : x26_8 = true
          · subst c11
            have H1 : (some (65535, Go.bits .or .i64 8 (Go.bits .and .i64 a3 1), true)) = some (r1, r2, r3) := by rw [if_pos rfl] at H; exact H
            clear H
            have H := H1
            clear H1
            simp only [Option.some.injEq, Prod.mk.injEq] at H
            obtain ⟨rfl, rfl, rfl⟩ := H
            go_wp2
            go_ret3
            exact ⟨by first | rfl | (simp [errW_none, errW_some] <;> rfl) | (simp [*, errW_none, errW_some] <;> rfl), by repeat (first | (with_reducible first | exact HB.out | apply below_alloc | apply pw_below_drewN | apply below_drew1) | exact HB.out)⟩
          · replace c11 := Bool.eq_false_iff.mpr c11
            subst c11
            have H1 : (if a0 = 25 then (some (0, Go.bits .or .i64 4 (Go.bits .and .i64 a3 1), true)) else (some (0, 0, false))) = some (r1, r2, r3) := by rw [if_neg (show ¬ (false = true) by decide)] at H; exact H
            clear H
            have H := H1
            clear H1
            by_cases c12 : a0 = 25
            · rw [if_pos c12] at H
              have c12b0 : (a0 == 25) = true := beq_iff_eq.mpr c12
              have c12b1 : (a0 != 25) = false := bne_eq_false_iff_eq.mpr c12
              clear c12
              simp only [Option.some.injEq, Prod.mk.injEq] at H
              obtain ⟨rfl, rfl, rfl⟩ := H
              go_wp2
              go_ret3
              exact ⟨by first | rfl | (simp [errW_none, errW_some] <;> rfl) | (simp [*, errW_none, errW_some] <;> rfl), by repeat (first | (with_reducible first | exact HB.out | apply below_alloc | apply pw_below_drewN | apply below_drew1) | exact HB.out)⟩
            · rw [if_neg c12] at H
              have c12b0 : (a0 == 25) = false := beq_eq_false_iff_ne.mpr c12
              have c12b1 : (a0 != 25) = true := bne_iff_ne.mpr c12
              simp only [Option.some.injEq, Prod.mk.injEq] at H
              obtain ⟨rfl, rfl, rfl⟩ := H
              go_wp2
              go_ret3
              exact ⟨by first | rfl | (simp [errW_none, errW_some] <;> rfl) | (simp [*, errW_none, errW_some] <;> rfl), by repeat (first | (with_reducible first | exact HB.out | apply below_alloc | apply pw_below_drewN | apply below_drew1) | exact HB.out)⟩

end Go.Proofs.YtfeflghimnbhiaaDoor.A
