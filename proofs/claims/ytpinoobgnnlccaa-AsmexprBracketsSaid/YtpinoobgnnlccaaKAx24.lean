/- Of the proofs of the laws of emulatorlaw26: Ax24, Ax25, BrSim, PBrackets. Conditions: those of each theorem. -/
import Derived.Test.YtpinoobgnnlccaaKAx0
import Derived.Test.YtpinoobgnnlccaaKXEq
import Derived.Test.YtpinoobgnnlccaaKAx1
import Derived.Test.YtpinoobgnnlccaaKAx15
import Derived.Test.YtpinoobgnnlccaaTermOk
import Derived.Test.YtpinoobgnnlccaaGreat
-- Written by a program of this session (mp.py) over the kit's print.py, with proofs by hand for what the print does not take.
namespace Go.Proofs.Ytpinoobgnnlccaa.A
open Go.RowKit Go.Proofs.YtpinoobgnnlccaaW.PrintWords Go.Proofs.YtpinoobgnnlccaaW.PrintLast Go.Proofs.YtpinoobgnnlccaaW.PrintMore
attribute [local go_sem] max2_int min2_int max_two min_two max_three min_three max_four min_four   -- for this text's walks alone
set_option linter.unusedVariables false
set_option linter.unusedSimpArgs false
/-! ### emulatorlaw26_symbol: function 16 -/
def emulatorlaw26_symbol.f (a0 : ByteArray) : Option (Int × ByteArray × Int × Int) := some (4, a0, 0, 1)
set_option maxHeartbeats 8000000 in
set_option maxRecDepth 100000 in
theorem emulatorlaw26_symbol.calls (a0 : ByteArray) (r1 : Int) (r2 : ByteArray) (r3 : Int) (r4 : Int) (w : World) (h : emulatorlaw26_symbol.f a0 = some (r1, r2, r3, r4)) :
    Calls Try.prog 16 #[.string a0] w fun e w' => e = .returned (.agg #[.int .i64 r1, .string r2, .int .i64 r3, .int .i64 r4]) ∧ Below w.heap.size w w' := by
  have hu38 := Try.underlying38
  have HB := Aside0.mk (Below.refl w.heap.size w)
  have H : (some (4, a0, 0, 1)) = some (r1, r2, r3, r4) := h
  clear h
  simp only [Option.some.injEq, Prod.mk.injEq] at H
  obtain ⟨rfl, rfl, rfl, rfl⟩ := H
  go_enter Try.func16, Try.ntmps16
  go_wp2_with (first | ((with_reducible refine gate_dst (N := 2) rfl ?_); refine box_event ?hg (N := 2) ?hd (cs := #[.int .i64 0, .string (⟨#[]⟩ : ByteArray), .int .i64 0, .int .i64 0]) (t := 38) ?hr ?_; (case hd => rfl); (case hg => rfl); (case hr => first | (go_simp; done) | (go_simp; rfl)); intro gb267 hg w2 hbox hb; have n0_ := Aside0.mk (below_step (by repeat (first | (with_reducible first | exact HB.out | apply below_alloc | apply pw_below_drewN | apply below_drew1) | exact HB.out)) hb); have n1_ := Aside0.mk (hbox); have n2_ := Aside0.mk ((by rw [hg]; exact (below_size (by repeat (first | (with_reducible first | exact HB.out | apply below_alloc | apply pw_below_drewN | apply below_drew1) | exact HB.out))) : w.heap.size ≤ gb267)); have n3_ := Aside0.mk ((by rw [hg]; exact (below_size (by repeat (first | (with_reducible first | exact HB.out | apply below_alloc | apply pw_below_drewN | apply below_drew1) | exact HB.out))) : w.heap.size ≤ gb267)); clear HB; have HB := n0_; have BK267 := n1_; have GW267 := n2_; have GE267 := n3_; clear n0_ n1_ n2_ n3_; clear hb hbox hg; have hcz3_0 : w2.cell? ⟨gb267, 0, none⟩ = some (.int .i64 0) := (blk_cell BK267.out 0).trans rfl; have hcz3_1 : w2.cell? ⟨gb267, 1, none⟩ = some (.string (⟨#[]⟩ : ByteArray)) := (blk_cell BK267.out 1).trans rfl; have hcz3_2 : w2.cell? ⟨gb267, 2, none⟩ = some (.int .i64 0) := (blk_cell BK267.out 2).trans rfl; have hcz3_3 : w2.cell? ⟨gb267, 3, none⟩ = some (.int .i64 0) := (blk_cell BK267.out 3).trans rfl; have hfz3_0 := blk_frozen BK267.out 0; have hfz3_1 := blk_frozen BK267.out 1; have hfz3_2 := blk_frozen BK267.out 2; have hfz3_3 := blk_frozen BK267.out 3))
  refine bodyPost_ret (results_cell_row rfl _ _ gb267 38 #[.int .i64 4, .string a0, .int .i64 0, .int .i64 1] (0, 0) _ rfl (by (with_reducible repeat (first | refine blk_drewN ?_ _ | refine blk_drew ?_ | refine blk_alloc ?_ _)); refine blk_put (cs := #[.int .i64 4, .string a0, .int .i64 0, .int .i64 0]) ?_ 3 _ rfl; (with_reducible repeat (first | refine blk_drewN ?_ _ | refine blk_drew ?_ | refine blk_alloc ?_ _)); refine blk_put (cs := #[.int .i64 4, .string a0, .int .i64 0, .int .i64 0]) ?_ 2 _ rfl; (with_reducible repeat (first | refine blk_drewN ?_ _ | refine blk_drew ?_ | refine blk_alloc ?_ _)); refine blk_put (cs := #[.int .i64 4, .string (⟨#[]⟩ : ByteArray), .int .i64 0, .int .i64 0]) ?_ 1 _ rfl; (with_reducible repeat (first | refine blk_drewN ?_ _ | refine blk_drew ?_ | refine blk_alloc ?_ _)); refine blk_put (cs := #[.int .i64 0, .string (⟨#[]⟩ : ByteArray), .int .i64 0, .int .i64 0]) ?_ 0 _ rfl; (with_reducible repeat (first | refine blk_drewN ?_ _ | refine blk_drew ?_ | refine blk_alloc ?_ _)); exact BK267.out) Try.underlying38 rfl (by kernel_rfl)) rfl ?_
  exact ⟨by first | rfl | (simp [errW_none, errW_some] <;> rfl) | (simp [*, errW_none, errW_some] <;> rfl), by repeat (first | (with_reducible first | exact HB.out | apply below_alloc | apply pw_below_drewN | apply below_drew1 | refine below_set ?_ GE267.out) | exact HB.out)⟩
/-! ### emulatorlaw26_number: function 17 -/
def emulatorlaw26_number.f (a0 : Int) : Option (Int × ByteArray × Int × Int) := some (2, (⟨#[]⟩ : ByteArray), a0, 1)
set_option maxHeartbeats 8000000 in
set_option maxRecDepth 100000 in
theorem emulatorlaw26_number.calls (a0 : Int) (r1 : Int) (r2 : ByteArray) (r3 : Int) (r4 : Int) (w : World) (h : emulatorlaw26_number.f a0 = some (r1, r2, r3, r4)) :
    Calls Try.prog 17 #[.int .i64 a0] w fun e w' => e = .returned (.agg #[.int .i64 r1, .string r2, .int .i64 r3, .int .i64 r4]) ∧ Below w.heap.size w w' := by
  have hu38 := Try.underlying38
  have HB := Aside0.mk (Below.refl w.heap.size w)
  have H : (some (2, (⟨#[]⟩ : ByteArray), a0, 1)) = some (r1, r2, r3, r4) := h
  clear h
  simp only [Option.some.injEq, Prod.mk.injEq] at H
  obtain ⟨rfl, rfl, rfl, rfl⟩ := H
  go_enter Try.func17, Try.ntmps17
  go_wp2_with (first | ((with_reducible refine gate_dst (N := 2) rfl ?_); refine box_event ?hg (N := 2) ?hd (cs := #[.int .i64 0, .string (⟨#[]⟩ : ByteArray), .int .i64 0, .int .i64 0]) (t := 38) ?hr ?_; (case hd => rfl); (case hg => rfl); (case hr => first | (go_simp; done) | (go_simp; rfl)); intro gb268 hg w2 hbox hb; have n0_ := Aside0.mk (below_step (by repeat (first | (with_reducible first | exact HB.out | apply below_alloc | apply pw_below_drewN | apply below_drew1) | exact HB.out)) hb); have n1_ := Aside0.mk (hbox); have n2_ := Aside0.mk ((by rw [hg]; exact (below_size (by repeat (first | (with_reducible first | exact HB.out | apply below_alloc | apply pw_below_drewN | apply below_drew1) | exact HB.out))) : w.heap.size ≤ gb268)); have n3_ := Aside0.mk ((by rw [hg]; exact (below_size (by repeat (first | (with_reducible first | exact HB.out | apply below_alloc | apply pw_below_drewN | apply below_drew1) | exact HB.out))) : w.heap.size ≤ gb268)); clear HB; have HB := n0_; have BK268 := n1_; have GW268 := n2_; have GE268 := n3_; clear n0_ n1_ n2_ n3_; clear hb hbox hg; have hcz3_0 : w2.cell? ⟨gb268, 0, none⟩ = some (.int .i64 0) := (blk_cell BK268.out 0).trans rfl; have hcz3_1 : w2.cell? ⟨gb268, 1, none⟩ = some (.string (⟨#[]⟩ : ByteArray)) := (blk_cell BK268.out 1).trans rfl; have hcz3_2 : w2.cell? ⟨gb268, 2, none⟩ = some (.int .i64 0) := (blk_cell BK268.out 2).trans rfl; have hcz3_3 : w2.cell? ⟨gb268, 3, none⟩ = some (.int .i64 0) := (blk_cell BK268.out 3).trans rfl; have hfz3_0 := blk_frozen BK268.out 0; have hfz3_1 := blk_frozen BK268.out 1; have hfz3_2 := blk_frozen BK268.out 2; have hfz3_3 := blk_frozen BK268.out 3))
  refine bodyPost_ret (results_cell_row rfl _ _ gb268 38 #[.int .i64 2, .string (⟨#[]⟩ : ByteArray), .int .i64 a0, .int .i64 1] (0, 0) _ rfl (by (with_reducible repeat (first | refine blk_drewN ?_ _ | refine blk_drew ?_ | refine blk_alloc ?_ _)); refine blk_put (cs := #[.int .i64 2, .string (⟨#[]⟩ : ByteArray), .int .i64 a0, .int .i64 0]) ?_ 3 _ rfl; (with_reducible repeat (first | refine blk_drewN ?_ _ | refine blk_drew ?_ | refine blk_alloc ?_ _)); refine blk_put (cs := #[.int .i64 2, .string (⟨#[]⟩ : ByteArray), .int .i64 0, .int .i64 0]) ?_ 2 _ rfl; (with_reducible repeat (first | refine blk_drewN ?_ _ | refine blk_drew ?_ | refine blk_alloc ?_ _)); refine blk_put (cs := #[.int .i64 2, .string (⟨#[]⟩ : ByteArray), .int .i64 0, .int .i64 0]) ?_ 1 _ rfl; (with_reducible repeat (first | refine blk_drewN ?_ _ | refine blk_drew ?_ | refine blk_alloc ?_ _)); refine blk_put (cs := #[.int .i64 0, .string (⟨#[]⟩ : ByteArray), .int .i64 0, .int .i64 0]) ?_ 0 _ rfl; (with_reducible repeat (first | refine blk_drewN ?_ _ | refine blk_drew ?_ | refine blk_alloc ?_ _)); exact BK268.out) Try.underlying38 rfl (by kernel_rfl)) rfl ?_
  exact ⟨by first | rfl | (simp [errW_none, errW_some] <;> rfl) | (simp [*, errW_none, errW_some] <;> rfl), by repeat (first | (with_reducible first | exact HB.out | apply below_alloc | apply pw_below_drewN | apply below_drew1 | refine below_set ?_ GE268.out) | exact HB.out)⟩
end Go.Proofs.Ytpinoobgnnlccaa.A

-- Written by a program of this session (mp.py) over the kit's print.py, with proofs by hand for what the print does not take.
namespace Go.Proofs.Ytpinoobgnnlccaa.A
open Go.RowKit Go.Proofs.YtpinoobgnnlccaaW.PrintWords Go.Proofs.YtpinoobgnnlccaaW.PrintLast Go.Proofs.YtpinoobgnnlccaaW.PrintMore
attribute [local go_sem] max2_int min2_int max_two min_two max_three min_three max_four min_four   -- for this text's walks alone
set_option linter.unusedVariables false
set_option linter.unusedSimpArgs false
attribute [local go_sem high] eqA24
/-! ### emulatorlaw26_AsmexprBrackets: function 5 -/
mutual
def emulatorlaw26_AsmexprBrackets.j0 : Nat → List (S44) → Bool → List (S38) → Int → Int → ByteArray → Int → Option (Bool)
  | 0, _, _, _, _, _, _, _ => none
  | k + 1, x1, x31, x270000, x270001, x270002, x270003, x270004 => if x31 = true then (some true) else ((asmexpr_Eval.f x270000 x270001 x1 x270002 x270003 x270004).bind fun bt272 => (if bt272.2.2.2.2 = 0 then (if x270001 < 0 then (emulatorlaw26_AsmexprBrackets.j1 k x1 bt272.2.2.2.1 true x270000 x270001 x270002 x270003 x270004 bt272.1 bt272.2.1 bt272.2.2.1) else (if bt272.2.2.2.1 < x270001 then (emulatorlaw26_AsmexprBrackets.j1 k x1 bt272.2.2.2.1 true x270000 x270001 x270002 x270003 x270004 bt272.1 bt272.2.1 bt272.2.2.1) else (emulatorlaw26_AsmexprBrackets.j1 k x1 bt272.2.2.2.1 (decide (bt272.2.2.2.1 > (x270000.length : Int))) x270000 x270001 x270002 x270003 x270004 bt272.1 bt272.2.1 bt272.2.2.1))) else (if bt272.2.2.2.1 = 0 then (if (bt272.1 == 0 && (bt272.2.1.toList == ([] : List UInt8) && (bt272.2.2.1 == 0))) = true then ((emulatorlaw26_alive.f).bind fun t278 => (some t278)) else (some false)) else (some false))))
def emulatorlaw26_AsmexprBrackets.j1 : Nat → List (S44) → Int → Bool → List (S38) → Int → Int → ByteArray → Int → Int → ByteArray → Int → Option (Bool)
  | 0, _, _, _, _, _, _, _, _, _, _, _ => none
  | k + 1, x1, x6, x71, x270000, x270001, x270002, x270003, x270004, x278000, x278001, x278002 => if x71 = true then (some false) else ((emulatorlaw26_symbol.f (⟨#[40]⟩ : ByteArray)).bind fun bt279 => ((some (([(⟨bt279.1, bt279.2.1, bt279.2.2.1, bt279.2.2.2⟩ : S38)] : List (S38)) : List (S38))).bind fun y283 => (if 0 ≤ x270001 then (if x270001 ≤ x6 then (if x6 ≤ (x270000.length : Int) then ((some ((x270000.take (x6 : Int).toNat).drop (x270001 : Int).toNat : List (S38))).bind fun y286 => (if y283.length + y286.length < 3518437208883 then ((some (y283 ++ y286 : List (S38))).bind fun y290 => ((emulatorlaw26_symbol.f (⟨#[41]⟩ : ByteArray)).bind fun bt293 => ((emulatorlaw26_symbol.f (⟨#[44]⟩ : ByteArray)).bind fun bt297 => ((emulatorlaw26_number.f 1).bind fun bt301 => ((some (([(⟨bt293.1, bt293.2.1, bt293.2.2.1, bt293.2.2.2⟩ : S38), (⟨bt297.1, bt297.2.1, bt297.2.2.1, bt297.2.2.2⟩ : S38), (⟨bt301.1, bt301.2.1, bt301.2.2.1, bt301.2.2.2⟩ : S38)] : List (S38)) : List (S38))).bind fun y305 => (if y290.length + y305.length < 3518437208883 then ((asmexpr_Eval.f (y290 ++ y305) 0 x1 x270002 x270003 x270004).bind fun bt311 => (if bt311.2.2.2.2 = 7 then ((emulatorlaw26_alive.f).bind fun t317 => (some t317)) else (if bt311.2.2.2.2 = 0 then (if (x278000 == bt311.1 && (x278001.toList == bt311.2.1.toList && (x278002 == bt311.2.2.1))) = true then (if bt311.2.2.2.1 = (wrap64 ((wrap64 (x6 - x270001)) + 2)) then ((emulatorlaw26_alive.f).bind fun t318 => (some t318)) else (some false)) else (some false)) else (some false)))) else (none))))))) else (none))) else (none)) else (none)) else (none))))
end
def emulatorlaw26_AsmexprBrackets.f (k : Nat) (l0_0 : List (S38)) (a0_1 : Int) (a0_2 : Int) (a0_3 : ByteArray) (a0_4 : Int) (l1 : List (S44)) : Option (Bool) := (emulatorref26_Great.f k l0_0).bind fun t270 => (if t270 = true then (emulatorlaw26_AsmexprBrackets.j0 k l1 true l0_0 a0_1 a0_2 a0_3 a0_4) else (if (l0_0.length : Int) > 60 then (emulatorlaw26_AsmexprBrackets.j0 k l1 true l0_0 a0_1 a0_2 a0_3 a0_4) else ((emulatorref26_GreatSymbols.f k l1).bind fun t271 => (if t271 = true then (emulatorlaw26_AsmexprBrackets.j0 k l1 true l0_0 a0_1 a0_2 a0_3 a0_4) else (emulatorlaw26_AsmexprBrackets.j0 k l1 (decide ((a0_3.size : Int) > 100)) l0_0 a0_1 a0_2 a0_3 a0_4)))))
theorem emulatorlaw26_AsmexprBrackets.mono_l : ∀ k, (∀ y0 y1 y2 y3 y4 y5 y6, LeO (emulatorlaw26_AsmexprBrackets.j0 k y0 y1 y2 y3 y4 y5 y6) (emulatorlaw26_AsmexprBrackets.j0 (k + 1) y0 y1 y2 y3 y4 y5 y6)) ∧ (∀ y0 y1 y2 y3 y4 y5 y6 y7 y8 y9 y10, LeO (emulatorlaw26_AsmexprBrackets.j1 k y0 y1 y2 y3 y4 y5 y6 y7 y8 y9 y10) (emulatorlaw26_AsmexprBrackets.j1 (k + 1) y0 y1 y2 y3 y4 y5 y6 y7 y8 y9 y10))
  | 0 => ⟨fun _ _ _ _ _ _ _ r h => by simp [emulatorlaw26_AsmexprBrackets.j0] at h, fun _ _ _ _ _ _ _ _ _ _ _ r h => by simp [emulatorlaw26_AsmexprBrackets.j1] at h⟩
  | k + 1 => by
    obtain ⟨ih0, ih1⟩ := emulatorlaw26_AsmexprBrackets.mono_l k
    refine ⟨?_, ?_⟩
    · intro y0 y1 y2 y3 y4 y5 y6
      unfold emulatorlaw26_AsmexprBrackets.j0
      repeat' first
      | (with_reducible exact ih0 _ _ _ _ _ _ _)
      | (with_reducible exact ih1 _ _ _ _ _ _ _ _ _ _ _)
      | (with_reducible exact emulatorref26_Great.mono _ _)
      | (with_reducible exact emulatorref26_GreatSymbols.mono _ _)
      | (with_reducible exact LeO.refl _)
      | (with_reducible exact LeO.none _)
      | (with_reducible refine LeO.ite ?_ ?_)
      | (with_reducible refine LeO.bind ?_ (fun _ => ?_))
      | exact ih0 _ _ _ _ _ _ _
      | exact ih1 _ _ _ _ _ _ _ _ _ _ _
      | exact emulatorref26_Great.mono _ _
      | exact emulatorref26_GreatSymbols.mono _ _
      | exact LeO.none _
      | refine LeO.ite ?_ ?_
      | refine LeO.bind ?_ (fun _ => ?_)
    · intro y0 y1 y2 y3 y4 y5 y6 y7 y8 y9 y10
      unfold emulatorlaw26_AsmexprBrackets.j1
      repeat' first
      | (with_reducible exact ih0 _ _ _ _ _ _ _)
      | (with_reducible exact ih1 _ _ _ _ _ _ _ _ _ _ _)
      | (with_reducible exact emulatorref26_Great.mono _ _)
      | (with_reducible exact emulatorref26_GreatSymbols.mono _ _)
      | (with_reducible exact LeO.refl _)
      | (with_reducible exact LeO.none _)
      | (with_reducible refine LeO.ite ?_ ?_)
      | (with_reducible refine LeO.bind ?_ (fun _ => ?_))
      | exact ih0 _ _ _ _ _ _ _
      | exact ih1 _ _ _ _ _ _ _ _ _ _ _
      | exact emulatorref26_Great.mono _ _
      | exact emulatorref26_GreatSymbols.mono _ _
      | exact LeO.none _
      | refine LeO.ite ?_ ?_
      | refine LeO.bind ?_ (fun _ => ?_)
theorem emulatorlaw26_AsmexprBrackets.mono : ∀ a0 a1 a2 a3 a4 a5 k, LeO (emulatorlaw26_AsmexprBrackets.f k a0 a1 a2 a3 a4 a5) (emulatorlaw26_AsmexprBrackets.f (k + 1) a0 a1 a2 a3 a4 a5) := by
  intro a0 a1 a2 a3 a4 a5 k
  obtain ⟨ih0, ih1⟩ := emulatorlaw26_AsmexprBrackets.mono_l k
  unfold emulatorlaw26_AsmexprBrackets.f
  repeat' first
      | (with_reducible exact ih0 _ _ _ _ _ _ _)
      | (with_reducible exact ih1 _ _ _ _ _ _ _ _ _ _ _)
      | (with_reducible exact emulatorref26_Great.mono _ _)
      | (with_reducible exact emulatorref26_GreatSymbols.mono _ _)
      | (with_reducible exact LeO.refl _)
      | (with_reducible exact LeO.none _)
      | (with_reducible refine LeO.ite ?_ ?_)
      | (with_reducible refine LeO.bind ?_ (fun _ => ?_))
      | exact ih0 _ _ _ _ _ _ _
      | exact ih1 _ _ _ _ _ _ _ _ _ _ _
      | exact emulatorref26_Great.mono _ _
      | exact emulatorref26_GreatSymbols.mono _ _
      | exact LeO.none _
      | refine LeO.ite ?_ ?_
      | refine LeO.bind ?_ (fun _ => ?_)
theorem brackets_dead (k : Nat) (x1 : List S44) (x2 : Int) (x3 : List S38) (x4 x5 : Int) (x6 : ByteArray) (x7 x8 : Int) (x9 : ByteArray) (x10 : Int) : emulatorlaw26_AsmexprBrackets.j1 k x1 x2 true x3 x4 x5 x6 x7 x8 x9 x10 ≠ some true := by cases k <;> simp [emulatorlaw26_AsmexprBrackets.j1]
set_option maxHeartbeats 8000000 in
set_option maxRecDepth 100000 in
theorem emulatorlaw26_AsmexprBrackets.calls (k : Nat) (A0_0 : Option Addr) (c0_0 : Nat) (l0_0 : List (S38)) (a0_1 : Int) (a0_2 : Int) (a0_3 : ByteArray) (a0_4 : Int) (A1 : Option Addr) (c1 : Nat) (l1 : List (S44)) (r : Bool) (w : World) (hr0_0 : Kd.C k38 w A0_0 l0_0.length l0_0) (hc0_0 : l0_0.length ≤ c0_0) (hr1 : Kd.C k44 w A1 l1.length l1) (hc1 : l1.length ≤ c1) (h : emulatorlaw26_AsmexprBrackets.f k l0_0 a0_1 a0_2 a0_3 a0_4 l1 = some r) (hrT : r = true) :
    Calls Try.prog 5 #[.agg #[.slice A0_0 l0_0.length c0_0, .int .i64 a0_1, .int .i64 a0_2, .string a0_3, .int .i64 a0_4], .slice A1 l1.length c1] w fun e w' => e = .returned (.bool r) ∧ Below w.heap.size w w' := by
  have hu26 := Try.underlying26
  have hu24 := Try.underlying24
  have HR0_0 := Aside0.mk hr0_0
  have HC0_0 := Aside0.mk hc0_0
  clear hr0_0 hc0_0
  have HR1 := Aside0.mk hr1
  have HC1 := Aside0.mk hc1
  clear hr1 hc1
  have hr_ := Aside0.mk hrT
  clear hrT
  have HB := Aside0.mk (Below.refl w.heap.size w)
  have H : ((emulatorref26_Great.f k l0_0).bind fun t270 => (if t270 = true then (emulatorlaw26_AsmexprBrackets.j0 k l1 true l0_0 a0_1 a0_2 a0_3 a0_4) else (if (l0_0.length : Int) > 60 then (emulatorlaw26_AsmexprBrackets.j0 k l1 true l0_0 a0_1 a0_2 a0_3 a0_4) else ((emulatorref26_GreatSymbols.f k l1).bind fun t271 => (if t271 = true then (emulatorlaw26_AsmexprBrackets.j0 k l1 true l0_0 a0_1 a0_2 a0_3 a0_4) else (emulatorlaw26_AsmexprBrackets.j0 k l1 (decide ((a0_3.size : Int) > 100)) l0_0 a0_1 a0_2 a0_3 a0_4)))))) = some r := h
  clear h
  have HC3 := Aside0.mk H
  clear H
  go_enter Try.func5, Try.ntmps5
  go_upto_region 1 with (first | ((with_reducible refine gate_dst (N := 2) rfl ?_); (try (refine gate_guard (by rfl) ?_; dsimp only)); refine box_event ?hg (N := 2) ?hd (cs := #[.slice A0_0 l0_0.length c0_0, .int .i64 a0_1, .int .i64 a0_2, .string a0_3, .int .i64 a0_4]) (t := 26) ?hr ?_; (case hd => rfl); (case hg => rfl); (case hr => first | (go_simp; done) | (go_simp; rfl)); intro gb269 hg w4 hbox hb; have n0_ := Aside0.mk (below_step (by repeat (first | (with_reducible first | exact HB.out | apply below_alloc | apply pw_below_drewN | apply below_drew1) | exact HB.out)) hb); have n1_ := Aside0.mk (hbox); have n2_ := Aside0.mk ((by rw [hg]; exact (below_size (by repeat (first | (with_reducible first | exact HB.out | apply below_alloc | apply pw_below_drewN | apply below_drew1) | exact HB.out))) : w.heap.size ≤ gb269)); have n3_ := Aside0.mk ((by rw [hg]; exact (below_size (by repeat (first | (with_reducible first | exact HB.out | apply below_alloc | apply pw_below_drewN | apply below_drew1) | exact HB.out))) : w.heap.size ≤ gb269)); clear HB; have HB := n0_; have BK269 := n1_; have GW269 := n2_; have GE269 := n3_; clear n0_ n1_ n2_ n3_; clear hb hbox hg))
  (try simp only [Act.put, List.setIfInBounds_toArray, List.set_cons_zero, List.set_cons_succ])
  go_cut [31] (fun v31 wc => ∃ (kq : Nat) (x31_2 : Bool), v31 = .bool x31_2 ∧ Aside0 (emulatorlaw26_AsmexprBrackets.j0 kq l1 x31_2 l0_0 a0_1 a0_2 a0_3 a0_4 = some r) ∧ Aside0 (kq ≤ k) ∧ Aside0 (wc.heap[gb269]? = some (.cells #[(.slice A0_0 l0_0.length c0_0), .int .i64 a0_1, .int .i64 a0_2, .string a0_3, .int .i64 a0_4] 26 (0, 0))) ∧ Aside0 (Below w.heap.size w wc))
  case first =>
    have H := HC3.out
    clear HC3
    replace H := Option.bind_eq_some_iff.mp H
    obtain ⟨t270, A50, H⟩ := H
    replace H : (if t270 = true then (emulatorlaw26_AsmexprBrackets.j0 k l1 true l0_0 a0_1 a0_2 a0_3 a0_4) else (if (l0_0.length : Int) > 60 then (emulatorlaw26_AsmexprBrackets.j0 k l1 true l0_0 a0_1 a0_2 a0_3 a0_4) else ((emulatorref26_GreatSymbols.f k l1).bind fun t271 => (if t271 = true then (emulatorlaw26_AsmexprBrackets.j0 k l1 true l0_0 a0_1 a0_2 a0_3 a0_4) else (emulatorlaw26_AsmexprBrackets.j0 k l1 (decide ((a0_3.size : Int) > 100)) l0_0 a0_1 a0_2 a0_3 a0_4))))) = some r := H
    have A5 := Aside0.mk A50
    clear A50
    by_cases c6 : t270 = true
    · subst c6
      have H1 : (emulatorlaw26_AsmexprBrackets.j0 k l1 true l0_0 a0_1 a0_2 a0_3 a0_4) = some r := by rw [if_pos rfl] at H; exact H
      clear H
      have H := H1
      clear H1
      have H' := Aside0.mk H
      clear H
      have hcz7_0 : w4.cell? ⟨gb269, 0, none⟩ = some (.slice A0_0 l0_0.length c0_0) := (blk_cell BK269.out 0).trans rfl
      have hcz7_1 : w4.cell? ⟨gb269, 1, none⟩ = some (.int .i64 a0_1) := (blk_cell BK269.out 1).trans rfl
      have hcz7_2 : w4.cell? ⟨gb269, 2, none⟩ = some (.int .i64 a0_2) := (blk_cell BK269.out 2).trans rfl
      have hcz7_3 : w4.cell? ⟨gb269, 3, none⟩ = some (.string a0_3) := (blk_cell BK269.out 3).trans rfl
      have hcz7_4 : w4.cell? ⟨gb269, 4, none⟩ = some (.int .i64 a0_4) := (blk_cell BK269.out 4).trans rfl
      have hfz7_0 := blk_frozen BK269.out 0
      have hfz7_1 := blk_frozen BK269.out 1
      have hfz7_2 := blk_frozen BK269.out 2
      have hfz7_3 := blk_frozen BK269.out 3
      have hfz7_4 := blk_frozen BK269.out 4
      go_wp2_with (first | ((with_reducible refine gate_callee (f := 9) rfl ?_); refine goesL_ (some 14) rfl rfl Try.func9 (by kernel_rfl) rfl #[.slice A0_0 l0_0.length c0_0] rfl (by (try simp only [List.map_toArray, List.map_cons, List.map_nil]); first | done | rfl | (simp only [List.length_drop, List.length_take]; rfl)) ?_; (with_reducible refine (emulatorref26_Great.calls k _ _ l0_0 true _ ?side1 ?side2 A5.out).mono ?_); (case side1 => repeat (first | exact (Kd.C_below HR0_0.out HB.out) | (with_reducible refine Kd.C_alloc ?_ _) | (with_reducible refine Kd.C_drewN ?_ _) | (with_reducible refine Kd.C_drew ?_))); (case side2 => exact HC0_0.out); rintro e w' ⟨rfl, ⟨nd, rfl⟩⟩; refine ⟨_, rfl, ?_⟩))
      go_meet
      case rel => exact ⟨_, (true), (by first | rfl | (simp; done) | (simp [*]; done)), H', ⟨by first | omega | exact Nat.le_refl _⟩, ⟨by (with_reducible repeat (first | refine blk_drewN ?_ _ | refine blk_drew ?_ | refine blk_alloc ?_ _)); exact BK269.out⟩, ⟨by repeat (first | (with_reducible first | exact HB.out | apply below_alloc | apply pw_below_drewN | apply below_drew1 | refine below_set ?_ GE269.out) | exact HB.out)⟩⟩
    · replace c6 := Bool.eq_false_iff.mpr c6
      subst c6
      have H1 : (if (l0_0.length : Int) > 60 then (emulatorlaw26_AsmexprBrackets.j0 k l1 true l0_0 a0_1 a0_2 a0_3 a0_4) else ((emulatorref26_GreatSymbols.f k l1).bind fun t271 => (if t271 = true then (emulatorlaw26_AsmexprBrackets.j0 k l1 true l0_0 a0_1 a0_2 a0_3 a0_4) else (emulatorlaw26_AsmexprBrackets.j0 k l1 (decide ((a0_3.size : Int) > 100)) l0_0 a0_1 a0_2 a0_3 a0_4)))) = some r := by rw [if_neg (show ¬ (false = true) by decide)] at H; exact H
      clear H
      have H := H1
      clear H1
      by_cases c8 : (l0_0.length : Int) > 60
      · rw [if_pos c8] at H
        have c8b0 : decide (60 < (l0_0.length : Int)) = true := decide_eq_true c8
        have c8b1 : decide (60 < l0_0.length) = true := decide_eq_true (by omega)
        clear c8
        (first | rw [c8b0] | (simp only [i64_w, i32_w]; rw [c8b0]) | skip)
        have H' := Aside0.mk H
        clear H
        have hcz9_0 : w4.cell? ⟨gb269, 0, none⟩ = some (.slice A0_0 l0_0.length c0_0) := (blk_cell BK269.out 0).trans rfl
        have hcz9_1 : w4.cell? ⟨gb269, 1, none⟩ = some (.int .i64 a0_1) := (blk_cell BK269.out 1).trans rfl
        have hcz9_2 : w4.cell? ⟨gb269, 2, none⟩ = some (.int .i64 a0_2) := (blk_cell BK269.out 2).trans rfl
        have hcz9_3 : w4.cell? ⟨gb269, 3, none⟩ = some (.string a0_3) := (blk_cell BK269.out 3).trans rfl
        have hcz9_4 : w4.cell? ⟨gb269, 4, none⟩ = some (.int .i64 a0_4) := (blk_cell BK269.out 4).trans rfl
        have hfz9_0 := blk_frozen BK269.out 0
        have hfz9_1 := blk_frozen BK269.out 1
        have hfz9_2 := blk_frozen BK269.out 2
        have hfz9_3 := blk_frozen BK269.out 3
        have hfz9_4 := blk_frozen BK269.out 4
        go_wp2_with (first | ((with_reducible refine gate_callee (f := 9) rfl ?_); refine goesL_ (some 14) rfl rfl Try.func9 (by kernel_rfl) rfl #[.slice A0_0 l0_0.length c0_0] rfl (by (try simp only [List.map_toArray, List.map_cons, List.map_nil]); first | done | rfl | (simp only [List.length_drop, List.length_take]; rfl)) ?_; (with_reducible refine (emulatorref26_Great.calls k _ _ l0_0 false _ ?side1 ?side2 A5.out).mono ?_); (case side1 => repeat (first | exact (Kd.C_below HR0_0.out HB.out) | (with_reducible refine Kd.C_alloc ?_ _) | (with_reducible refine Kd.C_drewN ?_ _) | (with_reducible refine Kd.C_drew ?_))); (case side2 => exact HC0_0.out); rintro e w' ⟨rfl, ⟨nd, rfl⟩⟩; refine ⟨_, rfl, ?_⟩))
        go_meet
        case rel => exact ⟨_, (true), (by first | rfl | (simp; done) | (simp [*]; done)), H', ⟨by first | omega | exact Nat.le_refl _⟩, ⟨by (with_reducible repeat (first | refine blk_drewN ?_ _ | refine blk_drew ?_ | refine blk_alloc ?_ _)); exact BK269.out⟩, ⟨by repeat (first | (with_reducible first | exact HB.out | apply below_alloc | apply pw_below_drewN | apply below_drew1 | refine below_set ?_ GE269.out) | exact HB.out)⟩⟩
      · rw [if_neg c8] at H
        have c8b0 : decide (60 < (l0_0.length : Int)) = false := decide_eq_false c8
        have c8b1 : decide (60 < l0_0.length) = false := decide_eq_false (by omega)
        clear c8
        (first | rw [c8b0] | (simp only [i64_w, i32_w]; rw [c8b0]) | skip)
        replace H := Option.bind_eq_some_iff.mp H
        obtain ⟨t271, A100, H⟩ := H
        replace H : (if t271 = true then (emulatorlaw26_AsmexprBrackets.j0 k l1 true l0_0 a0_1 a0_2 a0_3 a0_4) else (emulatorlaw26_AsmexprBrackets.j0 k l1 (decide ((a0_3.size : Int) > 100)) l0_0 a0_1 a0_2 a0_3 a0_4)) = some r := H
        have A10 := Aside0.mk A100
        clear A100
        by_cases c11 : t271 = true
        · subst c11
          have H1 : (emulatorlaw26_AsmexprBrackets.j0 k l1 true l0_0 a0_1 a0_2 a0_3 a0_4) = some r := by rw [if_pos rfl] at H; exact H
          clear H
          have H := H1
          clear H1
          have H' := Aside0.mk H
          clear H
          have hcz12_0 : w4.cell? ⟨gb269, 0, none⟩ = some (.slice A0_0 l0_0.length c0_0) := (blk_cell BK269.out 0).trans rfl
          have hcz12_1 : w4.cell? ⟨gb269, 1, none⟩ = some (.int .i64 a0_1) := (blk_cell BK269.out 1).trans rfl
          have hcz12_2 : w4.cell? ⟨gb269, 2, none⟩ = some (.int .i64 a0_2) := (blk_cell BK269.out 2).trans rfl
          have hcz12_3 : w4.cell? ⟨gb269, 3, none⟩ = some (.string a0_3) := (blk_cell BK269.out 3).trans rfl
          have hcz12_4 : w4.cell? ⟨gb269, 4, none⟩ = some (.int .i64 a0_4) := (blk_cell BK269.out 4).trans rfl
          have hfz12_0 := blk_frozen BK269.out 0
          have hfz12_1 := blk_frozen BK269.out 1
          have hfz12_2 := blk_frozen BK269.out 2
          have hfz12_3 := blk_frozen BK269.out 3
          have hfz12_4 := blk_frozen BK269.out 4
          go_wp2_with (first | ((with_reducible refine gate_callee (f := 9) rfl ?_); refine goesL_ (some 14) rfl rfl Try.func9 (by kernel_rfl) rfl #[.slice A0_0 l0_0.length c0_0] rfl (by (try simp only [List.map_toArray, List.map_cons, List.map_nil]); first | done | rfl | (simp only [List.length_drop, List.length_take]; rfl)) ?_; (with_reducible refine (emulatorref26_Great.calls k _ _ l0_0 false _ ?side1 ?side2 A5.out).mono ?_); (case side1 => repeat (first | exact (Kd.C_below HR0_0.out HB.out) | (with_reducible refine Kd.C_alloc ?_ _) | (with_reducible refine Kd.C_drewN ?_ _) | (with_reducible refine Kd.C_drew ?_))); (case side2 => exact HC0_0.out); rintro e w' ⟨rfl, ⟨nd, rfl⟩⟩; refine ⟨_, rfl, ?_⟩) | (go_at_call 10; (with_reducible refine (emulatorref26_GreatSymbols.calls k _ _ l1 true _ ?side1 ?side2 A10.out).mono ?_); (case side1 => repeat (first | exact (Kd.C_below HR1.out (by repeat (first | (with_reducible first | exact HB.out | apply below_alloc | apply pw_below_drewN | apply below_drew1 | refine below_set ?_ GE269.out) | exact HB.out))) | (with_reducible refine Kd.C_alloc ?_ _) | (with_reducible refine Kd.C_drewN ?_ _) | (with_reducible refine Kd.C_drew ?_))); (case side2 => exact HC1.out); rintro e w' ⟨rfl, ⟨nd, rfl⟩⟩))
          go_meet
          case rel => exact ⟨_, (true), (by first | rfl | (simp; done) | (simp [*]; done)), H', ⟨by first | omega | exact Nat.le_refl _⟩, ⟨by (with_reducible repeat (first | refine blk_drewN ?_ _ | refine blk_drew ?_ | refine blk_alloc ?_ _)); exact BK269.out⟩, ⟨by repeat (first | (with_reducible first | exact HB.out | apply below_alloc | apply pw_below_drewN | apply below_drew1 | refine below_set ?_ GE269.out) | exact HB.out)⟩⟩
        · replace c11 := Bool.eq_false_iff.mpr c11
          subst c11
          have H1 : (emulatorlaw26_AsmexprBrackets.j0 k l1 (decide ((a0_3.size : Int) > 100)) l0_0 a0_1 a0_2 a0_3 a0_4) = some r := by rw [if_neg (show ¬ (false = true) by decide)] at H; exact H
          clear H
          have H := H1
          clear H1
          have H' := Aside0.mk H
          clear H
          have hcz13_0 : w4.cell? ⟨gb269, 0, none⟩ = some (.slice A0_0 l0_0.length c0_0) := (blk_cell BK269.out 0).trans rfl
          have hcz13_1 : w4.cell? ⟨gb269, 1, none⟩ = some (.int .i64 a0_1) := (blk_cell BK269.out 1).trans rfl
          have hcz13_2 : w4.cell? ⟨gb269, 2, none⟩ = some (.int .i64 a0_2) := (blk_cell BK269.out 2).trans rfl
          have hcz13_3 : w4.cell? ⟨gb269, 3, none⟩ = some (.string a0_3) := (blk_cell BK269.out 3).trans rfl
          have hcz13_4 : w4.cell? ⟨gb269, 4, none⟩ = some (.int .i64 a0_4) := (blk_cell BK269.out 4).trans rfl
          have hfz13_0 := blk_frozen BK269.out 0
          have hfz13_1 := blk_frozen BK269.out 1
          have hfz13_2 := blk_frozen BK269.out 2
          have hfz13_3 := blk_frozen BK269.out 3
          have hfz13_4 := blk_frozen BK269.out 4
          go_wp2_with (first | ((with_reducible refine gate_callee (f := 9) rfl ?_); refine goesL_ (some 14) rfl rfl Try.func9 (by kernel_rfl) rfl #[.slice A0_0 l0_0.length c0_0] rfl (by (try simp only [List.map_toArray, List.map_cons, List.map_nil]); first | done | rfl | (simp only [List.length_drop, List.length_take]; rfl)) ?_; (with_reducible refine (emulatorref26_Great.calls k _ _ l0_0 false _ ?side1 ?side2 A5.out).mono ?_); (case side1 => repeat (first | exact (Kd.C_below HR0_0.out HB.out) | (with_reducible refine Kd.C_alloc ?_ _) | (with_reducible refine Kd.C_drewN ?_ _) | (with_reducible refine Kd.C_drew ?_))); (case side2 => exact HC0_0.out); rintro e w' ⟨rfl, ⟨nd, rfl⟩⟩; refine ⟨_, rfl, ?_⟩) | (go_at_call 10; (with_reducible refine (emulatorref26_GreatSymbols.calls k _ _ l1 false _ ?side1 ?side2 A10.out).mono ?_); (case side1 => repeat (first | exact (Kd.C_below HR1.out (by repeat (first | (with_reducible first | exact HB.out | apply below_alloc | apply pw_below_drewN | apply below_drew1 | refine below_set ?_ GE269.out) | exact HB.out))) | (with_reducible refine Kd.C_alloc ?_ _) | (with_reducible refine Kd.C_drewN ?_ _) | (with_reducible refine Kd.C_drew ?_))); (case side2 => exact HC1.out); rintro e w' ⟨rfl, ⟨nd, rfl⟩⟩))
          go_meet
          case rel => exact ⟨_, (decide ((a0_3.size : Int) > 100)), (by first | rfl | (simp; done) | (simp [*]; done)), H', ⟨by first | omega | exact Nat.le_refl _⟩, ⟨by (with_reducible repeat (first | refine blk_drewN ?_ _ | refine blk_drew ?_ | refine blk_alloc ?_ _)); exact BK269.out⟩, ⟨by repeat (first | (with_reducible first | exact HB.out | apply below_alloc | apply pw_below_drewN | apply below_drew1 | refine below_set ?_ GE269.out) | exact HB.out)⟩⟩
  case rest =>
    clear HC3
    try clear c1
    try clear p2
    try clear c5
    try clear c6
    try clear c8
    try clear c8b0
    try clear c8b1
    try clear c9
    try clear c11
    try clear hcz12_0
    try clear hcz12_1
    try clear hcz12_2
    try clear hcz12_3
    try clear hcz12_4
    try clear hcz13_0
    try clear hcz13_1
    try clear hcz13_2
    try clear hcz13_3
    try clear hcz13_4
    try clear hcz7_0
    try clear hcz7_1
    try clear hcz7_2
    try clear hcz7_3
    try clear hcz7_4
    try clear hcz9_0
    try clear hcz9_1
    try clear hcz9_2
    try clear hcz9_3
    try clear hcz9_4
    try clear hfz12_0
    try clear hfz12_1
    try clear hfz12_2
    try clear hfz12_3
    try clear hfz12_4
    try clear hfz13_0
    try clear hfz13_1
    try clear hfz13_2
    try clear hfz13_3
    try clear hfz13_4
    try clear hfz7_0
    try clear hfz7_1
    try clear hfz7_2
    try clear hfz7_3
    try clear hfz7_4
    try clear hfz9_0
    try clear hfz9_1
    try clear hfz9_2
    try clear hfz9_3
    try clear hfz9_4
    obtain ⟨kq, x31_2, rfl, HA, HJ2, BK269, HB⟩ := hcut
    cases kq with
    | zero => exact absurd HA.out (by simp [emulatorlaw26_AsmexprBrackets.j0])
    | succ kj2 =>
      have H := HA.out
      clear HA
      simp only [emulatorlaw26_AsmexprBrackets.j0] at H
      by_cases c14 : x31_2 = true
      · subst c14
        have H1 : (some true) = some r := by rw [if_pos rfl] at H; exact H
        clear H
        have H := H1
        clear H1
        obtain rfl := Option.some.inj H
        go_wp2
        go_ret
        exact ⟨by first | rfl | (simp [errW_none, errW_some] <;> rfl) | (simp [*, errW_none, errW_some] <;> rfl), by repeat (first | (with_reducible first | exact HB.out | apply below_alloc | apply pw_below_drewN | apply below_drew1 | refine below_set ?_ GE269.out) | exact HB.out)⟩
      · replace c14 := Bool.eq_false_iff.mpr c14
        subst c14
        have H1 : ((asmexpr_Eval.f l0_0 a0_1 l1 a0_2 a0_3 a0_4).bind fun bt272 => (if bt272.2.2.2.2 = 0 then (if a0_1 < 0 then (emulatorlaw26_AsmexprBrackets.j1 kj2 l1 bt272.2.2.2.1 true l0_0 a0_1 a0_2 a0_3 a0_4 bt272.1 bt272.2.1 bt272.2.2.1) else (if bt272.2.2.2.1 < a0_1 then (emulatorlaw26_AsmexprBrackets.j1 kj2 l1 bt272.2.2.2.1 true l0_0 a0_1 a0_2 a0_3 a0_4 bt272.1 bt272.2.1 bt272.2.2.1) else (emulatorlaw26_AsmexprBrackets.j1 kj2 l1 bt272.2.2.2.1 (decide (bt272.2.2.2.1 > (l0_0.length : Int))) l0_0 a0_1 a0_2 a0_3 a0_4 bt272.1 bt272.2.1 bt272.2.2.1))) else (if bt272.2.2.2.1 = 0 then (if (bt272.1 == 0 && (bt272.2.1.toList == ([] : List UInt8) && (bt272.2.2.1 == 0))) = true then ((emulatorlaw26_alive.f).bind fun t278 => (some t278)) else (some false)) else (some false)))) = some r := by rw [if_neg (show ¬ (false = true) by decide)] at H; exact H
        clear H
        have H := H1
        clear H1
        replace H := Option.bind_eq_some_iff.mp H
        obtain ⟨⟨t272, t273, t274, t275, t276⟩, A150, H⟩ := H
        replace H : (if t276 = 0 then (if a0_1 < 0 then (emulatorlaw26_AsmexprBrackets.j1 kj2 l1 t275 true l0_0 a0_1 a0_2 a0_3 a0_4 t272 t273 t274) else (if t275 < a0_1 then (emulatorlaw26_AsmexprBrackets.j1 kj2 l1 t275 true l0_0 a0_1 a0_2 a0_3 a0_4 t272 t273 t274) else (emulatorlaw26_AsmexprBrackets.j1 kj2 l1 t275 (decide (t275 > (l0_0.length : Int))) l0_0 a0_1 a0_2 a0_3 a0_4 t272 t273 t274))) else (if t275 = 0 then (if (t272 == 0 && (t273.toList == ([] : List UInt8) && (t274 == 0))) = true then ((emulatorlaw26_alive.f).bind fun t278 => (some t278)) else (some false)) else (some false))) = some r := H
        have A15 := Aside0.mk A150
        clear A150
        by_cases c16 : t276 = 0
        · rw [if_pos c16] at H
          have c16b0 : (t276 == 0) = true := beq_iff_eq.mpr c16
          have c16b1 : (t276 != 0) = false := bne_eq_false_iff_eq.mpr c16
          clear c16
          have HC17 := Aside0.mk H
          clear H
          have hcz18_0 : wc.cell? ⟨gb269, 0, none⟩ = some (.slice A0_0 l0_0.length c0_0) := (blk_cell BK269.out 0).trans rfl
          have hcz18_1 : wc.cell? ⟨gb269, 1, none⟩ = some (.int .i64 a0_1) := (blk_cell BK269.out 1).trans rfl
          have hcz18_2 : wc.cell? ⟨gb269, 2, none⟩ = some (.int .i64 a0_2) := (blk_cell BK269.out 2).trans rfl
          have hcz18_3 : wc.cell? ⟨gb269, 3, none⟩ = some (.string a0_3) := (blk_cell BK269.out 3).trans rfl
          have hcz18_4 : wc.cell? ⟨gb269, 4, none⟩ = some (.int .i64 a0_4) := (blk_cell BK269.out 4).trans rfl
          have hfz18_0 := blk_frozen BK269.out 0
          have hfz18_1 := blk_frozen BK269.out 1
          have hfz18_2 := blk_frozen BK269.out 2
          have hfz18_3 := blk_frozen BK269.out 3
          have hfz18_4 := blk_frozen BK269.out 4
          go_upto_region 6 with (first | ((with_reducible refine gate_callee (f := 11) rfl ?_); refine goesL_ (some 40) rfl rfl Try.func11 (by kernel_rfl) rfl #[.slice A0_0 l0_0.length c0_0, .int .i64 a0_1, .slice A1 l1.length c1, .agg #[.int .i64 a0_2, .string a0_3, .int .i64 a0_4]] rfl (by (try simp only [List.map_toArray, List.map_cons, List.map_nil]); first | done | rfl | (simp only [List.length_drop, List.length_take]; rfl)) ?_; (with_reducible refine (asmexpr_Eval.calls _ _ l0_0 a0_1 _ _ l1 a0_2 a0_3 a0_4 t272 t273 t274 t275 t276 _ ?side1 ?side2 ?side3 ?side4 A15.out).mono ?_); (case side1 => repeat (first | exact (Kd.C_below HR0_0.out HB.out) | (with_reducible refine Kd.C_alloc ?_ _) | (with_reducible refine Kd.C_drewN ?_ _) | (with_reducible refine Kd.C_drew ?_))); (case side2 => exact HC0_0.out); (case side3 => repeat (first | exact (Kd.C_below HR1.out HB.out) | (with_reducible refine Kd.C_alloc ?_ _) | (with_reducible refine Kd.C_drewN ?_ _) | (with_reducible refine Kd.C_drew ?_))); (case side4 => exact HC1.out); rintro e w19 ⟨rfl, hb⟩; refine ⟨_, rfl, ?_⟩; have n0_ := Aside0.mk (blk_below (g := gb269) (o := .cells #[.slice A0_0 l0_0.length c0_0, .int .i64 a0_1, .int .i64 a0_2, .string a0_3, .int .i64 a0_4] 26 (0, 0)) (by (with_reducible repeat (first | refine blk_drewN ?_ _ | refine blk_drew ?_ | refine blk_alloc ?_ _)); exact BK269.out) hb); have n1_ := Aside0.mk (below_step (by repeat (first | (with_reducible first | exact HB.out | apply below_alloc | apply pw_below_drewN | apply below_drew1 | refine below_set ?_ GE269.out) | exact HB.out)) hb); clear BK269; clear HB; have BK269 := n0_; have HB := n1_; clear n0_ n1_; (try clear hb); (try clear hb2); (try clear hk); (try clear hi)) | ((with_reducible refine gate_dst (N := 5) rfl ?_); (try (refine gate_guard (by rfl) ?_; dsimp only)); refine box_event ?hg (N := 5) ?hd (cs := #[.int .i64 0, .string (⟨#[]⟩ : ByteArray), .int .i64 0]) (t := 24) ?hr ?_; (case hd => rfl); (case hg => rfl); (case hr => first | (go_simp; done) | (go_simp; rfl)); intro gb277 hg w20 hbox hb; have n0_ := Aside0.mk (blk_below (g := gb269) (o := .cells #[.slice A0_0 l0_0.length c0_0, .int .i64 a0_1, .int .i64 a0_2, .string a0_3, .int .i64 a0_4] 26 (0, 0)) (by (with_reducible repeat (first | refine blk_drewN ?_ _ | refine blk_drew ?_ | refine blk_alloc ?_ _)); exact BK269.out) hb); have n1_ := Aside0.mk (below_step (by repeat (first | (with_reducible first | exact HB.out | apply below_alloc | apply pw_below_drewN | apply below_drew1 | refine below_set ?_ GE269.out) | exact HB.out)) hb); have n2_ := Aside0.mk (hbox); have n3_ := Aside0.mk ((by rw [hg]; exact (below_size (by repeat (first | (with_reducible first | exact HB.out | apply below_alloc | apply pw_below_drewN | apply below_drew1 | refine below_set ?_ GE269.out) | exact HB.out))) : w.heap.size ≤ gb277)); have n4_ := Aside0.mk ((by rw [hg]; exact (below_size (by repeat (first | (with_reducible first | exact HB.out | apply below_alloc | apply pw_below_drewN | apply below_drew1 | refine below_set ?_ GE269.out) | exact HB.out))) : w.heap.size ≤ gb277)); have n5_ := Aside0.mk ((by rw [hg]; exact Nat.ne_of_lt (blk_lt (g := gb269) (o := .cells #[.slice A0_0 l0_0.length c0_0, .int .i64 a0_1, .int .i64 a0_2, .string a0_3, .int .i64 a0_4] 26 (0, 0)) (by (with_reducible repeat (first | refine blk_drewN ?_ _ | refine blk_drew ?_ | refine blk_alloc ?_ _)); exact BK269.out)) : gb269 ≠ gb277)); have n6_ := Aside0.mk ((by rw [hg]; exact Nat.ne_of_gt (blk_lt (g := gb269) (o := .cells #[.slice A0_0 l0_0.length c0_0, .int .i64 a0_1, .int .i64 a0_2, .string a0_3, .int .i64 a0_4] 26 (0, 0)) (by (with_reducible repeat (first | refine blk_drewN ?_ _ | refine blk_drew ?_ | refine blk_alloc ?_ _)); exact BK269.out)) : gb277 ≠ gb269)); clear BK269; clear HB; have BK269 := n0_; have HB := n1_; have BK277 := n2_; have GW277 := n3_; have GE277 := n4_; have NB269_277 := n5_; have NB277_269 := n6_; clear n0_ n1_ n2_ n3_ n4_ n5_ n6_; clear hb hbox hg; have hnb21 := NB277_269.out; have hnc21 := NB269_277.out; have hcz22_0 : w20.cell? ⟨gb277, 0, none⟩ = some (.int .i64 0) := (blk_cell BK277.out 0).trans rfl; have hcz22_1 : w20.cell? ⟨gb277, 1, none⟩ = some (.string (⟨#[]⟩ : ByteArray)) := (blk_cell BK277.out 1).trans rfl; have hcz22_2 : w20.cell? ⟨gb277, 2, none⟩ = some (.int .i64 0) := (blk_cell BK277.out 2).trans rfl; have hfz22_0 := blk_frozen BK277.out 0; have hfz22_1 := blk_frozen BK277.out 1; have hfz22_2 := blk_frozen BK277.out 2))
          (try simp only [Act.put, List.setIfInBounds_toArray, List.set_cons_zero, List.set_cons_succ])
          go_cut [71] (fun v71 wc => ∃ (kq : Nat) (x71_16 : Bool), v71 = .bool x71_16 ∧ Aside0 (emulatorlaw26_AsmexprBrackets.j1 kq l1 t275 x71_16 l0_0 a0_1 a0_2 a0_3 a0_4 t272 t273 t274 = some r) ∧ Aside0 (kq ≤ kj2) ∧ Aside0 (wc.heap[gb269]? = some (.cells #[(.slice A0_0 l0_0.length c0_0), .int .i64 a0_1, .int .i64 a0_2, .string a0_3, .int .i64 a0_4] 26 (0, 0))) ∧ Aside0 (wc.heap[gb277]? = some (.cells #[.int .i64 t272, .string t273, .int .i64 t274] 24 (0, 0))) ∧ Aside0 (Below w.heap.size w wc))
          case first =>
            have H := HC17.out
            clear HC17
            by_cases c23 : a0_1 < 0
            · rw [if_pos c23] at H
              exact absurd (H.trans (congrArg some hr_.out)) (brackets_dead _ _ _ _ _ _ _ _ _ _ _)
            · rw [if_neg c23] at H
              have c23b0 : decide (a0_1 < 0) = false := decide_eq_false c23
              clear c23
              (first | rw [c23b0] | (simp only [i64_w, i32_w]; rw [c23b0]) | skip)
              by_cases c26 : t275 < a0_1
              · rw [if_pos c26] at H
                exact absurd (H.trans (congrArg some hr_.out)) (brackets_dead _ _ _ _ _ _ _ _ _ _ _)
              · rw [if_neg c26] at H
                have c26b0 : decide (t275 < a0_1) = false := decide_eq_false c26
                clear c26
                have H' := Aside0.mk H
                clear H
                have hnb29 := NB269_277.out
                have hnc29 := NB277_269.out
                have hcz30_0 : w20.cell? ⟨gb269, 0, none⟩ = some (.slice A0_0 l0_0.length c0_0) := (blk_cell BK269.out 0).trans rfl
                have hcz30_1 : w20.cell? ⟨gb269, 1, none⟩ = some (.int .i64 a0_1) := (blk_cell BK269.out 1).trans rfl
                have hcz30_2 : w20.cell? ⟨gb269, 2, none⟩ = some (.int .i64 a0_2) := (blk_cell BK269.out 2).trans rfl
                have hcz30_3 : w20.cell? ⟨gb269, 3, none⟩ = some (.string a0_3) := (blk_cell BK269.out 3).trans rfl
                have hcz30_4 : w20.cell? ⟨gb269, 4, none⟩ = some (.int .i64 a0_4) := (blk_cell BK269.out 4).trans rfl
                have hfz30_0 := blk_frozen BK269.out 0
                have hfz30_1 := blk_frozen BK269.out 1
                have hfz30_2 := blk_frozen BK269.out 2
                have hfz30_3 := blk_frozen BK269.out 3
                have hfz30_4 := blk_frozen BK269.out 4
                go_wp2
                go_meet
                case rel => exact ⟨_, (decide (t275 > (l0_0.length : Int))), (by first | rfl | (simp; done) | (simp [*]; done)), H', ⟨by have := HJ2.out; first | omega | exact Nat.le_refl _⟩, ⟨by (with_reducible repeat (first | refine blk_drewN ?_ _ | refine blk_drew ?_ | refine blk_alloc ?_ _)); refine blk_far ?_ NB269_277.out _; (with_reducible repeat (first | refine blk_drewN ?_ _ | refine blk_drew ?_ | refine blk_alloc ?_ _)); refine blk_far ?_ NB269_277.out _; (with_reducible repeat (first | refine blk_drewN ?_ _ | refine blk_drew ?_ | refine blk_alloc ?_ _)); refine blk_far ?_ NB269_277.out _; (with_reducible repeat (first | refine blk_drewN ?_ _ | refine blk_drew ?_ | refine blk_alloc ?_ _)); exact BK269.out⟩, ⟨by (with_reducible repeat (first | refine blk_drewN ?_ _ | refine blk_drew ?_ | refine blk_alloc ?_ _)); refine blk_put (cs := #[.int .i64 t272, .string t273, .int .i64 0]) ?_ 2 _ rfl; (with_reducible repeat (first | refine blk_drewN ?_ _ | refine blk_drew ?_ | refine blk_alloc ?_ _)); refine blk_put (cs := #[.int .i64 t272, .string (⟨#[]⟩ : ByteArray), .int .i64 0]) ?_ 1 _ rfl; (with_reducible repeat (first | refine blk_drewN ?_ _ | refine blk_drew ?_ | refine blk_alloc ?_ _)); refine blk_put (cs := #[.int .i64 0, .string (⟨#[]⟩ : ByteArray), .int .i64 0]) ?_ 0 _ rfl; (with_reducible repeat (first | refine blk_drewN ?_ _ | refine blk_drew ?_ | refine blk_alloc ?_ _)); exact BK277.out⟩, ⟨by repeat (first | (with_reducible first | exact HB.out | apply below_alloc | apply pw_below_drewN | apply below_drew1 | refine below_set ?_ GE269.out | refine below_set ?_ GE277.out) | exact HB.out)⟩⟩
          case rest =>
            clear HC17
            try clear c1
            try clear c2
            try clear p2
            try clear c5
            try clear c6
            try clear c8
            try clear c8b0
            try clear c8b1
            try clear c9
            try clear c11
            try clear c14
            try clear c16
            try clear c16b0
            try clear c16b1
            try clear c21
            try clear c23
            try clear c23b0
            try clear c24
            try clear c26
            try clear c26b0
            try clear c27
            try clear c29
            try clear hcz12_0
            try clear hcz12_1
            try clear hcz12_2
            try clear hcz12_3
            try clear hcz12_4
            try clear hcz13_0
            try clear hcz13_1
            try clear hcz13_2
            try clear hcz13_3
            try clear hcz13_4
            try clear hcz18_0
            try clear hcz18_1
            try clear hcz18_2
            try clear hcz18_3
            try clear hcz18_4
            try clear hcz22_0
            try clear hcz22_1
            try clear hcz22_2
            try clear hcz25_0
            try clear hcz25_1
            try clear hcz25_2
            try clear hcz25_3
            try clear hcz25_4
            try clear hcz28_0
            try clear hcz28_1
            try clear hcz28_2
            try clear hcz28_3
            try clear hcz28_4
            try clear hcz30_0
            try clear hcz30_1
            try clear hcz30_2
            try clear hcz30_3
            try clear hcz30_4
            try clear hcz7_0
            try clear hcz7_1
            try clear hcz7_2
            try clear hcz7_3
            try clear hcz7_4
            try clear hcz9_0
            try clear hcz9_1
            try clear hcz9_2
            try clear hcz9_3
            try clear hcz9_4
            try clear hfz12_0
            try clear hfz12_1
            try clear hfz12_2
            try clear hfz12_3
            try clear hfz12_4
            try clear hfz13_0
            try clear hfz13_1
            try clear hfz13_2
            try clear hfz13_3
            try clear hfz13_4
            try clear hfz18_0
            try clear hfz18_1
            try clear hfz18_2
            try clear hfz18_3
            try clear hfz18_4
            try clear hfz22_0
            try clear hfz22_1
            try clear hfz22_2
            try clear hfz25_0
            try clear hfz25_1
            try clear hfz25_2
            try clear hfz25_3
            try clear hfz25_4
            try clear hfz28_0
            try clear hfz28_1
            try clear hfz28_2
            try clear hfz28_3
            try clear hfz28_4
            try clear hfz30_0
            try clear hfz30_1
            try clear hfz30_2
            try clear hfz30_3
            try clear hfz30_4
            try clear hfz7_0
            try clear hfz7_1
            try clear hfz7_2
            try clear hfz7_3
            try clear hfz7_4
            try clear hfz9_0
            try clear hfz9_1
            try clear hfz9_2
            try clear hfz9_3
            try clear hfz9_4
            try clear p2
            obtain ⟨kq, x71_16, rfl, HA, HJ16, BK269, BK277, HB⟩ := hcut
            cases kq with
            | zero => exact absurd HA.out (by simp [emulatorlaw26_AsmexprBrackets.j1])
            | succ kj16 =>
              have H := HA.out
              clear HA
              simp only [emulatorlaw26_AsmexprBrackets.j1] at H
              by_cases c31 : x71_16 = true
              · subst c31
                have H1 : (some false) = some r := by rw [if_pos rfl] at H; exact H
                clear H
                have H := H1
                clear H1
                exact absurd (H.trans (congrArg some hr_.out)) (by decide)
              · replace c31 := Bool.eq_false_iff.mpr c31
                subst c31
                have H1 : ((emulatorlaw26_symbol.f (⟨#[40]⟩ : ByteArray)).bind fun bt279 => ((some (([(⟨bt279.1, bt279.2.1, bt279.2.2.1, bt279.2.2.2⟩ : S38)] : List (S38)) : List (S38))).bind fun y283 => (if 0 ≤ a0_1 then (if a0_1 ≤ t275 then (if t275 ≤ (l0_0.length : Int) then ((some ((l0_0.take (t275 : Int).toNat).drop (a0_1 : Int).toNat : List (S38))).bind fun y286 => (if y283.length + y286.length < 3518437208883 then ((some (y283 ++ y286 : List (S38))).bind fun y290 => ((emulatorlaw26_symbol.f (⟨#[41]⟩ : ByteArray)).bind fun bt293 => ((emulatorlaw26_symbol.f (⟨#[44]⟩ : ByteArray)).bind fun bt297 => ((emulatorlaw26_number.f 1).bind fun bt301 => ((some (([(⟨bt293.1, bt293.2.1, bt293.2.2.1, bt293.2.2.2⟩ : S38), (⟨bt297.1, bt297.2.1, bt297.2.2.1, bt297.2.2.2⟩ : S38), (⟨bt301.1, bt301.2.1, bt301.2.2.1, bt301.2.2.2⟩ : S38)] : List (S38)) : List (S38))).bind fun y305 => (if y290.length + y305.length < 3518437208883 then ((asmexpr_Eval.f (y290 ++ y305) 0 l1 a0_2 a0_3 a0_4).bind fun bt311 => (if bt311.2.2.2.2 = 7 then ((emulatorlaw26_alive.f).bind fun t317 => (some t317)) else (if bt311.2.2.2.2 = 0 then (if (t272 == bt311.1 && (t273.toList == bt311.2.1.toList && (t274 == bt311.2.2.1))) = true then (if bt311.2.2.2.1 = (wrap64 ((wrap64 (t275 - a0_1)) + 2)) then ((emulatorlaw26_alive.f).bind fun t318 => (some t318)) else (some false)) else (some false)) else (some false)))) else (none))))))) else (none))) else (none)) else (none)) else (none)))) = some r := by rw [if_neg (show ¬ (false = true) by decide)] at H; exact H
                clear H
                have H := H1
                clear H1
                replace H := Option.bind_eq_some_iff.mp H
                obtain ⟨⟨t279, t280, t281, t282⟩, A320, H⟩ := H
                replace H : ((some (([(⟨t279, t280, t281, t282⟩ : S38)] : List (S38)) : List (S38))).bind fun y283 => (if 0 ≤ a0_1 then (if a0_1 ≤ t275 then (if t275 ≤ (l0_0.length : Int) then ((some ((l0_0.take (t275 : Int).toNat).drop (a0_1 : Int).toNat : List (S38))).bind fun y286 => (if y283.length + y286.length < 3518437208883 then ((some (y283 ++ y286 : List (S38))).bind fun y290 => ((emulatorlaw26_symbol.f (⟨#[41]⟩ : ByteArray)).bind fun bt293 => ((emulatorlaw26_symbol.f (⟨#[44]⟩ : ByteArray)).bind fun bt297 => ((emulatorlaw26_number.f 1).bind fun bt301 => ((some (([(⟨bt293.1, bt293.2.1, bt293.2.2.1, bt293.2.2.2⟩ : S38), (⟨bt297.1, bt297.2.1, bt297.2.2.1, bt297.2.2.2⟩ : S38), (⟨bt301.1, bt301.2.1, bt301.2.2.1, bt301.2.2.2⟩ : S38)] : List (S38)) : List (S38))).bind fun y305 => (if y290.length + y305.length < 3518437208883 then ((asmexpr_Eval.f (y290 ++ y305) 0 l1 a0_2 a0_3 a0_4).bind fun bt311 => (if bt311.2.2.2.2 = 7 then ((emulatorlaw26_alive.f).bind fun t317 => (some t317)) else (if bt311.2.2.2.2 = 0 then (if (t272 == bt311.1 && (t273.toList == bt311.2.1.toList && (t274 == bt311.2.2.1))) = true then (if bt311.2.2.2.1 = (wrap64 ((wrap64 (t275 - a0_1)) + 2)) then ((emulatorlaw26_alive.f).bind fun t318 => (some t318)) else (some false)) else (some false)) else (some false)))) else (none))))))) else (none))) else (none)) else (none)) else (none))) = some r := H
                have A32 := Aside0.mk A320
                clear A320
                obtain ⟨y283, hy283⟩ : ∃ y_ : List (S38), y_ = (([(⟨t279, t280, t281, t282⟩ : S38)] : List (S38))) := ⟨_, rfl⟩
                replace H : (if 0 ≤ a0_1 then (if a0_1 ≤ t275 then (if t275 ≤ (l0_0.length : Int) then ((some ((l0_0.take (t275 : Int).toNat).drop (a0_1 : Int).toNat : List (S38))).bind fun y286 => (if y283.length + y286.length < 3518437208883 then ((some (y283 ++ y286 : List (S38))).bind fun y290 => ((emulatorlaw26_symbol.f (⟨#[41]⟩ : ByteArray)).bind fun bt293 => ((emulatorlaw26_symbol.f (⟨#[44]⟩ : ByteArray)).bind fun bt297 => ((emulatorlaw26_number.f 1).bind fun bt301 => ((some (([(⟨bt293.1, bt293.2.1, bt293.2.2.1, bt293.2.2.2⟩ : S38), (⟨bt297.1, bt297.2.1, bt297.2.2.1, bt297.2.2.2⟩ : S38), (⟨bt301.1, bt301.2.1, bt301.2.2.1, bt301.2.2.2⟩ : S38)] : List (S38)) : List (S38))).bind fun y305 => (if y290.length + y305.length < 3518437208883 then ((asmexpr_Eval.f (y290 ++ y305) 0 l1 a0_2 a0_3 a0_4).bind fun bt311 => (if bt311.2.2.2.2 = 7 then ((emulatorlaw26_alive.f).bind fun t317 => (some t317)) else (if bt311.2.2.2.2 = 0 then (if (t272 == bt311.1 && (t273.toList == bt311.2.1.toList && (t274 == bt311.2.2.1))) = true then (if bt311.2.2.2.1 = (wrap64 ((wrap64 (t275 - a0_1)) + 2)) then ((emulatorlaw26_alive.f).bind fun t318 => (some t318)) else (some false)) else (some false)) else (some false)))) else (none))))))) else (none))) else (none)) else (none)) else (none)) = some r := by first | (rw [hy283]; with_reducible exact H) | (have H2_ := (Option.bind_some _ _).symm.trans H; rw [hy283]; with_reducible exact H2_) | (have H2_ := (Option.bind_some _ _).symm.trans H; with_reducible exact H2_) | with_reducible exact H | (rw [hy283]; exact H) | exact H
                have Ny283 := Aside0.mk hy283
                clear hy283
                by_cases c33 : 0 ≤ a0_1
                · rw [if_pos c33] at H
                  have c33b0 := eq_true c33
                  have c33b1 : decide (0 ≤ a0_1) = true := decide_eq_true c33
                  clear c33
                  by_cases c34 : a0_1 ≤ t275
                  · rw [if_pos c34] at H
                    have c34b0 := eq_true c34
                    have c34b1 : decide (a0_1 ≤ t275) = true := decide_eq_true c34
                    clear c34
                    by_cases c35 : t275 ≤ (l0_0.length : Int)
                    · rw [if_pos c35] at H
                      have c35b0 := eq_true c35
                      have c35b1 : decide (t275 ≤ (l0_0.length : Int)) = true := decide_eq_true c35
                      clear c35
                      obtain ⟨y286, hy286⟩ : ∃ y_ : List (S38), y_ = ((l0_0.take (t275 : Int).toNat).drop (a0_1 : Int).toNat) := ⟨_, rfl⟩
                      replace H : (if y283.length + y286.length < 3518437208883 then ((some (y283 ++ y286 : List (S38))).bind fun y290 => ((emulatorlaw26_symbol.f (⟨#[41]⟩ : ByteArray)).bind fun bt293 => ((emulatorlaw26_symbol.f (⟨#[44]⟩ : ByteArray)).bind fun bt297 => ((emulatorlaw26_number.f 1).bind fun bt301 => ((some (([(⟨bt293.1, bt293.2.1, bt293.2.2.1, bt293.2.2.2⟩ : S38), (⟨bt297.1, bt297.2.1, bt297.2.2.1, bt297.2.2.2⟩ : S38), (⟨bt301.1, bt301.2.1, bt301.2.2.1, bt301.2.2.2⟩ : S38)] : List (S38)) : List (S38))).bind fun y305 => (if y290.length + y305.length < 3518437208883 then ((asmexpr_Eval.f (y290 ++ y305) 0 l1 a0_2 a0_3 a0_4).bind fun bt311 => (if bt311.2.2.2.2 = 7 then ((emulatorlaw26_alive.f).bind fun t317 => (some t317)) else (if bt311.2.2.2.2 = 0 then (if (t272 == bt311.1 && (t273.toList == bt311.2.1.toList && (t274 == bt311.2.2.1))) = true then (if bt311.2.2.2.1 = (wrap64 ((wrap64 (t275 - a0_1)) + 2)) then ((emulatorlaw26_alive.f).bind fun t318 => (some t318)) else (some false)) else (some false)) else (some false)))) else (none))))))) else (none)) = some r := by first | (rw [hy286]; with_reducible exact H) | (have H2_ := (Option.bind_some _ _).symm.trans H; rw [hy286]; with_reducible exact H2_) | (have H2_ := (Option.bind_some _ _).symm.trans H; with_reducible exact H2_) | with_reducible exact H | (rw [hy286]; exact H) | exact H
                      have Ny286 := Aside0.mk hy286
                      clear hy286
                      by_cases c36 : y283.length + y286.length < 3518437208883
                      · rw [if_pos c36] at H
                        have LMc36 := Aside0.mk c36
                        clear c36
                        obtain ⟨y290, hy290⟩ : ∃ y_ : List (S38), y_ = (y283 ++ y286) := ⟨_, rfl⟩
                        replace H : ((emulatorlaw26_symbol.f (⟨#[41]⟩ : ByteArray)).bind fun bt293 => ((emulatorlaw26_symbol.f (⟨#[44]⟩ : ByteArray)).bind fun bt297 => ((emulatorlaw26_number.f 1).bind fun bt301 => ((some (([(⟨bt293.1, bt293.2.1, bt293.2.2.1, bt293.2.2.2⟩ : S38), (⟨bt297.1, bt297.2.1, bt297.2.2.1, bt297.2.2.2⟩ : S38), (⟨bt301.1, bt301.2.1, bt301.2.2.1, bt301.2.2.2⟩ : S38)] : List (S38)) : List (S38))).bind fun y305 => (if y290.length + y305.length < 3518437208883 then ((asmexpr_Eval.f (y290 ++ y305) 0 l1 a0_2 a0_3 a0_4).bind fun bt311 => (if bt311.2.2.2.2 = 7 then ((emulatorlaw26_alive.f).bind fun t317 => (some t317)) else (if bt311.2.2.2.2 = 0 then (if (t272 == bt311.1 && (t273.toList == bt311.2.1.toList && (t274 == bt311.2.2.1))) = true then (if bt311.2.2.2.1 = (wrap64 ((wrap64 (t275 - a0_1)) + 2)) then ((emulatorlaw26_alive.f).bind fun t318 => (some t318)) else (some false)) else (some false)) else (some false)))) else (none)))))) = some r := by first | (rw [hy290]; with_reducible exact H) | (have H2_ := (Option.bind_some _ _).symm.trans H; rw [hy290]; with_reducible exact H2_) | (have H2_ := (Option.bind_some _ _).symm.trans H; with_reducible exact H2_) | with_reducible exact H | (rw [hy290]; exact H) | exact H
                        have Ny290 := Aside0.mk hy290
                        clear hy290
                        replace H := Option.bind_eq_some_iff.mp H
                        obtain ⟨⟨t293, t294, t295, t296⟩, A370, H⟩ := H
                        replace H : ((emulatorlaw26_symbol.f (⟨#[44]⟩ : ByteArray)).bind fun bt297 => ((emulatorlaw26_number.f 1).bind fun bt301 => ((some (([(⟨t293, t294, t295, t296⟩ : S38), (⟨bt297.1, bt297.2.1, bt297.2.2.1, bt297.2.2.2⟩ : S38), (⟨bt301.1, bt301.2.1, bt301.2.2.1, bt301.2.2.2⟩ : S38)] : List (S38)) : List (S38))).bind fun y305 => (if y290.length + y305.length < 3518437208883 then ((asmexpr_Eval.f (y290 ++ y305) 0 l1 a0_2 a0_3 a0_4).bind fun bt311 => (if bt311.2.2.2.2 = 7 then ((emulatorlaw26_alive.f).bind fun t317 => (some t317)) else (if bt311.2.2.2.2 = 0 then (if (t272 == bt311.1 && (t273.toList == bt311.2.1.toList && (t274 == bt311.2.2.1))) = true then (if bt311.2.2.2.1 = (wrap64 ((wrap64 (t275 - a0_1)) + 2)) then ((emulatorlaw26_alive.f).bind fun t318 => (some t318)) else (some false)) else (some false)) else (some false)))) else (none))))) = some r := H
                        have A37 := Aside0.mk A370
                        clear A370
                        replace H := Option.bind_eq_some_iff.mp H
                        obtain ⟨⟨t297, t298, t299, t300⟩, A380, H⟩ := H
                        replace H : ((emulatorlaw26_number.f 1).bind fun bt301 => ((some (([(⟨t293, t294, t295, t296⟩ : S38), (⟨t297, t298, t299, t300⟩ : S38), (⟨bt301.1, bt301.2.1, bt301.2.2.1, bt301.2.2.2⟩ : S38)] : List (S38)) : List (S38))).bind fun y305 => (if y290.length + y305.length < 3518437208883 then ((asmexpr_Eval.f (y290 ++ y305) 0 l1 a0_2 a0_3 a0_4).bind fun bt311 => (if bt311.2.2.2.2 = 7 then ((emulatorlaw26_alive.f).bind fun t317 => (some t317)) else (if bt311.2.2.2.2 = 0 then (if (t272 == bt311.1 && (t273.toList == bt311.2.1.toList && (t274 == bt311.2.2.1))) = true then (if bt311.2.2.2.1 = (wrap64 ((wrap64 (t275 - a0_1)) + 2)) then ((emulatorlaw26_alive.f).bind fun t318 => (some t318)) else (some false)) else (some false)) else (some false)))) else (none)))) = some r := H
                        have A38 := Aside0.mk A380
                        clear A380
                        replace H := Option.bind_eq_some_iff.mp H
                        obtain ⟨⟨t301, t302, t303, t304⟩, A390, H⟩ := H
                        replace H : ((some (([(⟨t293, t294, t295, t296⟩ : S38), (⟨t297, t298, t299, t300⟩ : S38), (⟨t301, t302, t303, t304⟩ : S38)] : List (S38)) : List (S38))).bind fun y305 => (if y290.length + y305.length < 3518437208883 then ((asmexpr_Eval.f (y290 ++ y305) 0 l1 a0_2 a0_3 a0_4).bind fun bt311 => (if bt311.2.2.2.2 = 7 then ((emulatorlaw26_alive.f).bind fun t317 => (some t317)) else (if bt311.2.2.2.2 = 0 then (if (t272 == bt311.1 && (t273.toList == bt311.2.1.toList && (t274 == bt311.2.2.1))) = true then (if bt311.2.2.2.1 = (wrap64 ((wrap64 (t275 - a0_1)) + 2)) then ((emulatorlaw26_alive.f).bind fun t318 => (some t318)) else (some false)) else (some false)) else (some false)))) else (none))) = some r := H
                        have A39 := Aside0.mk A390
                        clear A390
                        obtain ⟨y305, hy305⟩ : ∃ y_ : List (S38), y_ = (([(⟨t293, t294, t295, t296⟩ : S38), (⟨t297, t298, t299, t300⟩ : S38), (⟨t301, t302, t303, t304⟩ : S38)] : List (S38))) := ⟨_, rfl⟩
                        replace H : (if y290.length + y305.length < 3518437208883 then ((asmexpr_Eval.f (y290 ++ y305) 0 l1 a0_2 a0_3 a0_4).bind fun bt311 => (if bt311.2.2.2.2 = 7 then ((emulatorlaw26_alive.f).bind fun t317 => (some t317)) else (if bt311.2.2.2.2 = 0 then (if (t272 == bt311.1 && (t273.toList == bt311.2.1.toList && (t274 == bt311.2.2.1))) = true then (if bt311.2.2.2.1 = (wrap64 ((wrap64 (t275 - a0_1)) + 2)) then ((emulatorlaw26_alive.f).bind fun t318 => (some t318)) else (some false)) else (some false)) else (some false)))) else (none)) = some r := by first | (rw [hy305]; with_reducible exact H) | (have H2_ := (Option.bind_some _ _).symm.trans H; rw [hy305]; with_reducible exact H2_) | (have H2_ := (Option.bind_some _ _).symm.trans H; with_reducible exact H2_) | with_reducible exact H | (rw [hy305]; exact H) | exact H
                        have Ny305 := Aside0.mk hy305
                        clear hy305
                        by_cases c40 : y290.length + y305.length < 3518437208883
                        · rw [if_pos c40] at H
                          have LMc40 := Aside0.mk c40
                          clear c40
                          obtain ⟨y308, hy308⟩ : ∃ y_ : List (S38), y_ = (y290 ++ y305) := ⟨_, rfl⟩
                          replace H : ((asmexpr_Eval.f y308 0 l1 a0_2 a0_3 a0_4).bind fun bt311 => (if bt311.2.2.2.2 = 7 then ((emulatorlaw26_alive.f).bind fun t317 => (some t317)) else (if bt311.2.2.2.2 = 0 then (if (t272 == bt311.1 && (t273.toList == bt311.2.1.toList && (t274 == bt311.2.2.1))) = true then (if bt311.2.2.2.1 = (wrap64 ((wrap64 (t275 - a0_1)) + 2)) then ((emulatorlaw26_alive.f).bind fun t318 => (some t318)) else (some false)) else (some false)) else (some false)))) = some r := by first | (rw [hy308]; with_reducible exact H) | (have H2_ := (Option.bind_some _ _).symm.trans H; rw [hy308]; with_reducible exact H2_) | (have H2_ := (Option.bind_some _ _).symm.trans H; with_reducible exact H2_) | with_reducible exact H | (rw [hy308]; exact H) | exact H
                          have Ny308 := Aside0.mk hy308
                          clear hy308
                          replace H := Option.bind_eq_some_iff.mp H
                          obtain ⟨⟨t311, t312, t313, t314, t315⟩, A410, H⟩ := H
                          replace H : (if t315 = 7 then ((emulatorlaw26_alive.f).bind fun t317 => (some t317)) else (if t315 = 0 then (if (t272 == t311 && (t273.toList == t312.toList && (t274 == t313))) = true then (if t314 = (wrap64 ((wrap64 (t275 - a0_1)) + 2)) then ((emulatorlaw26_alive.f).bind fun t318 => (some t318)) else (some false)) else (some false)) else (some false))) = some r := H
                          have A41 := Aside0.mk A410
                          clear A410
                          by_cases c42 : t315 = 7
                          · rw [if_pos c42] at H
                            have c42b0 : (t315 == 7) = true := beq_iff_eq.mpr c42
                            have c42b1 : (t315 != 7) = false := bne_eq_false_iff_eq.mpr c42
                            clear c42
                            replace H := Option.bind_eq_some_iff.mp H
                            obtain ⟨t317, A430, H⟩ := H
                            replace H : (some t317) = some r := H
                            have A43 := Aside0.mk A430
                            clear A430
                            obtain rfl := Option.some.inj H
                            go_wp2_with (first | ((with_reducible refine gate_callee (f := 16) rfl ?_); refine goesL_ (some 72) rfl rfl Try.func16 (by kernel_rfl) rfl #[.string (⟨#[40]⟩ : ByteArray)] rfl (by (try simp only [List.map_toArray, List.map_cons, List.map_nil]); first | done | rfl | (simp only [List.length_drop, List.length_take]; rfl)) ?_; (with_reducible refine (emulatorlaw26_symbol.calls (⟨#[40]⟩ : ByteArray) t279 t280 t281 t282 _ A32.out).mono ?_); rintro e w44 ⟨rfl, hb⟩; refine ⟨_, rfl, ?_⟩; have n0_ := Aside0.mk (blk_below (g := gb269) (o := .cells #[.slice A0_0 l0_0.length c0_0, .int .i64 a0_1, .int .i64 a0_2, .string a0_3, .int .i64 a0_4] 26 (0, 0)) (by (with_reducible repeat (first | refine blk_drewN ?_ _ | refine blk_drew ?_ | refine blk_alloc ?_ _)); exact BK269.out) hb); have n1_ := Aside0.mk (blk_below (g := gb277) (o := .cells #[.int .i64 t272, .string t273, .int .i64 t274] 24 (0, 0)) (by (with_reducible repeat (first | refine blk_drewN ?_ _ | refine blk_drew ?_ | refine blk_alloc ?_ _)); exact BK277.out) hb); have n2_ := Aside0.mk (below_step (by repeat (first | (with_reducible first | exact HB.out | apply below_alloc | apply pw_below_drewN | apply below_drew1 | refine below_set ?_ GE269.out | refine below_set ?_ GE277.out) | exact HB.out)) hb); clear BK269; clear BK277; clear HB; have BK269 := n0_; have BK277 := n1_; have HB := n2_; clear n0_ n1_ n2_; (try clear hb); (try clear hb2); (try clear hk); (try clear hi)) | ((with_reducible refine gate_dst (N := 73) rfl ?_); (try (refine gate_guard (by rfl) ?_; dsimp only)); refine Kd.R_lit k38 _ 38 ?hg (N := 73) ?hd (xs := ([(⟨t279, t280, t281, t282⟩ : S38)] : List (S38))) (inner := [.int .i64 t279, .string t280, .int .i64 t281, .int .i64 t282]) (ok := fun _ => True) (okp := fun _ => True) ?hr ?hp (fun _ hk => hk) trivial (Below.refl _ _) (Nat.le_refl _) (by simp) ?_; (case hd => rfl); (case hg => rfl); (case hr => first | (go_simp; done) | (go_simp; rfl)); (case hp => exact (Reps.c4 (show Kd.M k38 _ _ _ (⟨t279, t280, t281, t282⟩ : S38) [.int .i64 t279, .string t280, .int .i64 t281, .int .i64 t282] from (k38_mkM _ _ _ (⟨t279, t280, t281, t282⟩ : S38) )) (Reps.none _ _))); intro v284 w45 ho46 hb hg_ hnew_; clear hg_ hnew_; (first | rw [← Ny283.out] at ho46 | (simp only [Int.reduceToNat] at ho46; rw [← Ny283.out] at ho46)); have n0_ := Aside0.mk (Kd.R_lower ho46 (below_size (by repeat (first | (with_reducible first | exact HB.out | apply below_alloc | apply pw_below_drewN | apply below_drew1 | refine below_set ?_ GE269.out | refine below_set ?_ GE277.out) | exact HB.out)))); have n1_ := Aside0.mk (blk_below (g := gb269) (o := .cells #[.slice A0_0 l0_0.length c0_0, .int .i64 a0_1, .int .i64 a0_2, .string a0_3, .int .i64 a0_4] 26 (0, 0)) (by (with_reducible repeat (first | refine blk_drewN ?_ _ | refine blk_drew ?_ | refine blk_alloc ?_ _)); exact BK269.out) hb); have n2_ := Aside0.mk (blk_below (g := gb277) (o := .cells #[.int .i64 t272, .string t273, .int .i64 t274] 24 (0, 0)) (by (with_reducible repeat (first | refine blk_drewN ?_ _ | refine blk_drew ?_ | refine blk_alloc ?_ _)); exact BK277.out) hb); have n3_ := Aside0.mk (below_step (by repeat (first | (with_reducible first | exact HB.out | apply below_alloc | apply pw_below_drewN | apply below_drew1 | refine below_set ?_ GE269.out | refine below_set ?_ GE277.out) | exact HB.out)) hb); clear BK269; clear BK277; clear HB; have HO285 := n0_; have BK269 := n1_; have BK277 := n2_; have HB := n3_; clear n0_ n1_ n2_ n3_; clear hb ho46; have hnb47 := NB269_277.out; have hnc47 := NB277_269.out; have hcz48_0 : w45.cell? ⟨gb269, 0, none⟩ = some (.slice A0_0 l0_0.length c0_0) := (blk_cell BK269.out 0).trans rfl; have hcz48_1 : w45.cell? ⟨gb269, 1, none⟩ = some (.int .i64 a0_1) := (blk_cell BK269.out 1).trans rfl; have hcz48_2 : w45.cell? ⟨gb269, 2, none⟩ = some (.int .i64 a0_2) := (blk_cell BK269.out 2).trans rfl; have hcz48_3 : w45.cell? ⟨gb269, 3, none⟩ = some (.string a0_3) := (blk_cell BK269.out 3).trans rfl; have hcz48_4 : w45.cell? ⟨gb269, 4, none⟩ = some (.int .i64 a0_4) := (blk_cell BK269.out 4).trans rfl; have hfz48_0 := blk_frozen BK269.out 0; have hfz48_1 := blk_frozen BK269.out 1; have hfz48_2 := blk_frozen BK269.out 2; have hfz48_3 := blk_frozen BK269.out 3; have hfz48_4 := blk_frozen BK269.out 4; have q49 : (t275 : Int) ≤ ((l0_0.length : Int) : Int) := of_decide_eq_true (by first | (with_reducible assumption) | assumption); obtain ⟨i049, hi049, _, hsz49, _⟩ := info_parts info38; have hroom49 : l0_0.length ≤ c0_0 := HC0_0.out; have hC49 : Kd.C k38 _ A0_0 l0_0.length l0_0 := HR0_0.out; have ql49 : (a0_1 : Int) ≤ (t275 : Int) := of_decide_eq_true (by first | (with_reducible assumption) | assumption); have q049 : (0 : Int) ≤ (a0_1 : Int) := of_decide_eq_true (by first | (with_reducible assumption) | assumption); have hcut49 := cut_mid (P := Try.prog) 22 38 .i64 .i64 Try.underlying22 hi049 4 hsz49 A0_0 l0_0.length c0_0 a0_1 t275 q049 ql49 q49 hroom49; have hr49 := Kd.C_mid (lo := (a0_1 : Int).toNat) (hi := (t275 : Int).toNat) (c := c0_0) hC49 (by omega) (by omega) hroom49; obtain ⟨A49, hA49⟩ : ∃ A1, A1 = (if c0_0 = (a0_1 : Int).toNat then A0_0 else (A0_0 : Option Addr).map (·.add ((a0_1 : Int).toNat * 4))) := ⟨_, rfl⟩; obtain ⟨c49, hc49⟩ : ∃ c1, c1 = c0_0 - (a0_1 : Int).toNat := ⟨_, rfl⟩; have hy49 : y286.length = (t275 : Int).toNat - (a0_1 : Int).toNat := (by rw [Ny286.out, List.length_drop, List.length_take] <;> omega); rw [show ((l0_0).take (t275 : Int).toNat).drop (a0_1 : Int).toNat = y286 from Ny286.out.symm] at hr49; replace hr49 : Kd.C k38 _ A49 y286.length y286 := (by rw [hA49]; exact hr49); rw [← hy49, ← hA49, ← hc49] at hcut49; have HR289 := Aside0.mk hr49; have HC289 := Aside0.mk (show y286.length ≤ c49 from by rw [hy49, hc49]; exact Nat.sub_le_sub_right (Nat.le_trans (by omega) hroom49) _); clear hr49 hC49 hroom49 hi049 hsz49 hc49; have KY49 := Aside0.mk hy49; have KA49 := Aside0.mk hA49; clear hy49 hA49; replace q49 := eq_true q49) | ((with_reducible refine gate_builtin (b := .append) (xs := #[.tmp 74, .tmp 80]) rfl ?_); (try (refine gate_guard (by rfl) ?_; dsimp only)); at_builtin; refine Kd.R_append_rows k38 (w0 := w) w.heap.size rfl (.tmp 74) (.tmp 80) 22 38 (.agg #[(.int .i64 0), (.string ⟨#[]⟩), (.int .i64 0), (.int .i64 0)]) 40 rfl Try.underlying22 info38 rfl (by decide) (by omega) v284 y283 y286 _ _ _ (fun _ => True) (fun _ => False) rfl rfl ?aO ?aR (fun _ _ h => h) (fun _ h => h.elim) ?aF ?aB ?aS ?aL ?_; (case aR => repeat (first | exact (Kd.C_below HR289.out HB.out) | (with_reducible refine Kd.C_alloc ?_ _) | (with_reducible refine Kd.C_drewN ?_ _) | (with_reducible refine Kd.C_drew ?_))); (case aB => exact (by repeat (first | (with_reducible first | exact HB.out | apply below_alloc | apply pw_below_drewN | apply below_drew1 | refine below_set ?_ GE269.out | refine below_set ?_ GE277.out) | exact HB.out))); (case aF => exact (fun _ _ => trivial)); (case aO => exact (by (with_reducible repeat (first | apply Kd.R_alloc | apply Kd.R_drewN | apply Kd.R_drew)); exact HO285.out)); (case aS => exact (below_size (by repeat (first | (with_reducible first | exact HB.out | apply below_alloc | apply pw_below_drewN | apply below_drew1 | refine below_set ?_ GE269.out | refine below_set ?_ GE277.out) | exact HB.out)))); (case aL => have := LMc36.out; omega); intro v291 w50 ho hb hg hat; rw [← Ny290.out] at ho; have n0_ := Aside0.mk (blk_grown (g := gb269) (o := .cells #[.slice A0_0 l0_0.length c0_0, .int .i64 a0_1, .int .i64 a0_2, .string a0_3, .int .i64 a0_4] 26 (0, 0)) (by (with_reducible repeat (first | refine blk_drewN ?_ _ | refine blk_drew ?_ | refine blk_alloc ?_ _)); exact BK269.out) hg (Kd.R_ne HO285.out BK269.out (by decide))); have n1_ := Aside0.mk (blk_grown (g := gb277) (o := .cells #[.int .i64 t272, .string t273, .int .i64 t274] 24 (0, 0)) (by (with_reducible repeat (first | refine blk_drewN ?_ _ | refine blk_drew ?_ | refine blk_alloc ?_ _)); exact BK277.out) hg (Kd.R_ne HO285.out BK277.out (by decide))); have n2_ := Aside0.mk (hb); have n3_ := Aside0.mk (ho); clear BK269; clear BK277; clear HB; clear HO285; have BK269 := n0_; have BK277 := n1_; have HB := n2_; have HO292 := n3_; clear n0_ n1_ n2_ n3_; clear ho hb hg hat) | ((with_reducible refine gate_callee (f := 16) rfl ?_); refine goesL_ (some 83) rfl rfl Try.func16 (by kernel_rfl) rfl #[.string (⟨#[41]⟩ : ByteArray)] rfl (by (try simp only [List.map_toArray, List.map_cons, List.map_nil]); first | done | rfl | (simp only [List.length_drop, List.length_take]; rfl)) ?_; (with_reducible refine (emulatorlaw26_symbol.calls (⟨#[41]⟩ : ByteArray) t293 t294 t295 t296 _ A37.out).mono ?_); rintro e w51 ⟨rfl, hb⟩; refine ⟨_, rfl, ?_⟩; have n0_ := Aside0.mk (Kd.R_below (by (with_reducible repeat (first | apply Kd.R_alloc | apply Kd.R_drewN | apply Kd.R_drew)); exact HO292.out) hb); have n1_ := Aside0.mk (blk_below (g := gb269) (o := .cells #[.slice A0_0 l0_0.length c0_0, .int .i64 a0_1, .int .i64 a0_2, .string a0_3, .int .i64 a0_4] 26 (0, 0)) (by (with_reducible repeat (first | refine blk_drewN ?_ _ | refine blk_drew ?_ | refine blk_alloc ?_ _)); exact BK269.out) hb); have n2_ := Aside0.mk (blk_below (g := gb277) (o := .cells #[.int .i64 t272, .string t273, .int .i64 t274] 24 (0, 0)) (by (with_reducible repeat (first | refine blk_drewN ?_ _ | refine blk_drew ?_ | refine blk_alloc ?_ _)); exact BK277.out) hb); have n3_ := Aside0.mk (below_step (by repeat (first | (with_reducible first | exact HB.out | apply below_alloc | apply pw_below_drewN | apply below_drew1 | refine below_set ?_ GE269.out | refine below_set ?_ GE277.out) | exact HB.out)) hb); clear HO292; clear BK269; clear BK277; clear HB; have HO292 := n0_; have BK269 := n1_; have BK277 := n2_; have HB := n3_; clear n0_ n1_ n2_ n3_; (try clear hb); (try clear hb2); (try clear hk); (try clear hi)) | ((with_reducible refine gate_callee (f := 16) rfl ?_); refine goesL_ (some 84) rfl rfl Try.func16 (by kernel_rfl) rfl #[.string (⟨#[44]⟩ : ByteArray)] rfl (by (try simp only [List.map_toArray, List.map_cons, List.map_nil]); first | done | rfl | (simp only [List.length_drop, List.length_take]; rfl)) ?_; (with_reducible refine (emulatorlaw26_symbol.calls (⟨#[44]⟩ : ByteArray) t297 t298 t299 t300 _ A38.out).mono ?_); rintro e w52 ⟨rfl, hb⟩; refine ⟨_, rfl, ?_⟩; have n0_ := Aside0.mk (Kd.R_below (by (with_reducible repeat (first | apply Kd.R_alloc | apply Kd.R_drewN | apply Kd.R_drew)); exact HO292.out) hb); have n1_ := Aside0.mk (blk_below (g := gb269) (o := .cells #[.slice A0_0 l0_0.length c0_0, .int .i64 a0_1, .int .i64 a0_2, .string a0_3, .int .i64 a0_4] 26 (0, 0)) (by (with_reducible repeat (first | refine blk_drewN ?_ _ | refine blk_drew ?_ | refine blk_alloc ?_ _)); exact BK269.out) hb); have n2_ := Aside0.mk (blk_below (g := gb277) (o := .cells #[.int .i64 t272, .string t273, .int .i64 t274] 24 (0, 0)) (by (with_reducible repeat (first | refine blk_drewN ?_ _ | refine blk_drew ?_ | refine blk_alloc ?_ _)); exact BK277.out) hb); have n3_ := Aside0.mk (below_step (by repeat (first | (with_reducible first | exact HB.out | apply below_alloc | apply pw_below_drewN | apply below_drew1 | refine below_set ?_ GE269.out | refine below_set ?_ GE277.out) | exact HB.out)) hb); clear HO292; clear BK269; clear BK277; clear HB; have HO292 := n0_; have BK269 := n1_; have BK277 := n2_; have HB := n3_; clear n0_ n1_ n2_ n3_; (try clear hb); (try clear hb2); (try clear hk); (try clear hi)) | ((with_reducible refine gate_callee (f := 17) rfl ?_); refine goesL_ (some 85) rfl rfl Try.func17 (by kernel_rfl) rfl #[.int .i64 1] rfl (by (try simp only [List.map_toArray, List.map_cons, List.map_nil]); first | done | rfl | (simp only [List.length_drop, List.length_take]; rfl)) ?_; (with_reducible refine (emulatorlaw26_number.calls 1 t301 t302 t303 t304 _ A39.out).mono ?_); rintro e w53 ⟨rfl, hb⟩; refine ⟨_, rfl, ?_⟩; have n0_ := Aside0.mk (Kd.R_below (by (with_reducible repeat (first | apply Kd.R_alloc | apply Kd.R_drewN | apply Kd.R_drew)); exact HO292.out) hb); have n1_ := Aside0.mk (blk_below (g := gb269) (o := .cells #[.slice A0_0 l0_0.length c0_0, .int .i64 a0_1, .int .i64 a0_2, .string a0_3, .int .i64 a0_4] 26 (0, 0)) (by (with_reducible repeat (first | refine blk_drewN ?_ _ | refine blk_drew ?_ | refine blk_alloc ?_ _)); exact BK269.out) hb); have n2_ := Aside0.mk (blk_below (g := gb277) (o := .cells #[.int .i64 t272, .string t273, .int .i64 t274] 24 (0, 0)) (by (with_reducible repeat (first | refine blk_drewN ?_ _ | refine blk_drew ?_ | refine blk_alloc ?_ _)); exact BK277.out) hb); have n3_ := Aside0.mk (below_step (by repeat (first | (with_reducible first | exact HB.out | apply below_alloc | apply pw_below_drewN | apply below_drew1 | refine below_set ?_ GE269.out | refine below_set ?_ GE277.out) | exact HB.out)) hb); clear HO292; clear BK269; clear BK277; clear HB; have HO292 := n0_; have BK269 := n1_; have BK277 := n2_; have HB := n3_; clear n0_ n1_ n2_ n3_; (try clear hb); (try clear hb2); (try clear hk); (try clear hi)) | ((with_reducible refine gate_dst (N := 86) rfl ?_); (try (refine gate_guard (by rfl) ?_; dsimp only)); refine Kd.R_lit k38 _ 38 ?hg (N := 86) ?hd (xs := ([(⟨t293, t294, t295, t296⟩ : S38), (⟨t297, t298, t299, t300⟩ : S38), (⟨t301, t302, t303, t304⟩ : S38)] : List (S38))) (inner := [.int .i64 t293, .string t294, .int .i64 t295, .int .i64 t296, .int .i64 t297, .string t298, .int .i64 t299, .int .i64 t300, .int .i64 t301, .string t302, .int .i64 t303, .int .i64 t304]) (ok := fun _ => True) (okp := fun _ => True) ?hr ?hp (fun _ hk => hk) trivial (Below.refl _ _) (Nat.le_refl _) (by simp) ?_; (case hd => rfl); (case hg => rfl); (case hr => first | (go_simp; done) | (go_simp; rfl)); (case hp => exact (Reps.c4 (show Kd.M k38 _ _ _ (⟨t293, t294, t295, t296⟩ : S38) [.int .i64 t293, .string t294, .int .i64 t295, .int .i64 t296] from (k38_mkM _ _ _ (⟨t293, t294, t295, t296⟩ : S38) )) (Reps.c4 (show Kd.M k38 _ _ _ (⟨t297, t298, t299, t300⟩ : S38) [.int .i64 t297, .string t298, .int .i64 t299, .int .i64 t300] from (k38_mkM _ _ _ (⟨t297, t298, t299, t300⟩ : S38) )) (Reps.c4 (show Kd.M k38 _ _ _ (⟨t301, t302, t303, t304⟩ : S38) [.int .i64 t301, .string t302, .int .i64 t303, .int .i64 t304] from (k38_mkM _ _ _ (⟨t301, t302, t303, t304⟩ : S38) )) (Reps.none _ _))))); intro v306 w54 ho55 hb hg_ hnew_; clear hg_ hnew_; (first | rw [← Ny305.out] at ho55 | (simp only [Int.reduceToNat] at ho55; rw [← Ny305.out] at ho55)); have n0_ := Aside0.mk (Kd.R_elder' (by (with_reducible repeat (first | apply Kd.R_alloc | apply Kd.R_drewN | apply Kd.R_drew)); exact HO292.out) (Kd.R_base ho55) hb); have n1_ := Aside0.mk (Kd.R_lower (Kd.R_new' ho55 (Kd.R_lt (by (with_reducible repeat (first | apply Kd.R_alloc | apply Kd.R_drewN | apply Kd.R_drew)); exact HO292.out))) (below_size (by repeat (first | (with_reducible first | exact HB.out | apply below_alloc | apply pw_below_drewN | apply below_drew1 | refine below_set ?_ GE269.out | refine below_set ?_ GE277.out) | exact HB.out)))); have n2_ := Aside0.mk (blk_below (g := gb269) (o := .cells #[.slice A0_0 l0_0.length c0_0, .int .i64 a0_1, .int .i64 a0_2, .string a0_3, .int .i64 a0_4] 26 (0, 0)) (by (with_reducible repeat (first | refine blk_drewN ?_ _ | refine blk_drew ?_ | refine blk_alloc ?_ _)); exact BK269.out) hb); have n3_ := Aside0.mk (blk_below (g := gb277) (o := .cells #[.int .i64 t272, .string t273, .int .i64 t274] 24 (0, 0)) (by (with_reducible repeat (first | refine blk_drewN ?_ _ | refine blk_drew ?_ | refine blk_alloc ?_ _)); exact BK277.out) hb); have n4_ := Aside0.mk (below_step (by repeat (first | (with_reducible first | exact HB.out | apply below_alloc | apply pw_below_drewN | apply below_drew1 | refine below_set ?_ GE269.out | refine below_set ?_ GE277.out) | exact HB.out)) hb); clear HO292; clear BK269; clear BK277; clear HB; have HO292 := n0_; have HO307 := n1_; have BK269 := n2_; have BK277 := n3_; have HB := n4_; clear n0_ n1_ n2_ n3_ n4_; clear hb ho55; obtain ⟨Ao57, co57, eo57⟩ := Kd.R_slice HO307.out; subst eo57) | ((with_reducible refine gate_builtin (b := .append) (xs := #[.tmp 82, .tmp 86]) rfl ?_); (try (refine gate_guard (by rfl) ?_; dsimp only)); at_builtin; refine Kd.R_append_rows k38 (w0 := w) w.heap.size rfl (.tmp 82) (.tmp 86) 22 38 (.agg #[(.int .i64 0), (.string ⟨#[]⟩), (.int .i64 0), (.int .i64 0)]) 40 rfl Try.underlying22 info38 rfl (by decide) (by omega) v291 y290 y305 _ _ _ (fun k_ => some k_ ≠ (.slice Ao57 y305.length co57 : Value).ownBlock) (fun _ => False) rfl rfl ?aO ?aR (fun _ _ h => h) (fun _ h => h.elim) ?aF ?aB ?aS ?aL ?_; (case aR => repeat (first | exact (Kd.R_reads' HO307.out).2.2 | (with_reducible refine Kd.C_alloc ?_ _) | (with_reducible refine Kd.C_drewN ?_ _) | (with_reducible refine Kd.C_drew ?_))); (case aB => exact (by repeat (first | (with_reducible first | exact HB.out | apply below_alloc | apply pw_below_drewN | apply below_drew1 | refine below_set ?_ GE269.out | refine below_set ?_ GE277.out) | exact HB.out))); (case aF => exact (fun k_ hk => Kd.fresh' (Kd.R_lt (by (with_reducible repeat (first | apply Kd.R_alloc | apply Kd.R_drewN | apply Kd.R_drew)); exact HO307.out)) k_ hk)); (case aO => exact (by (with_reducible repeat (first | apply Kd.R_alloc | apply Kd.R_drewN | apply Kd.R_drew)); exact Kd.R_mono HO292.out (fun _ hk => hk.2))); (case aS => exact (below_size (by repeat (first | (with_reducible first | exact HB.out | apply below_alloc | apply pw_below_drewN | apply below_drew1 | refine below_set ?_ GE269.out | refine below_set ?_ GE277.out) | exact HB.out)))); (case aL => have := LMc40.out; omega); intro v309 w56 ho hb hg hat; rw [← Ny308.out] at ho; have n0_ := Aside0.mk (blk_grown (g := gb269) (o := .cells #[.slice A0_0 l0_0.length c0_0, .int .i64 a0_1, .int .i64 a0_2, .string a0_3, .int .i64 a0_4] 26 (0, 0)) (by (with_reducible repeat (first | refine blk_drewN ?_ _ | refine blk_drew ?_ | refine blk_alloc ?_ _)); exact BK269.out) hg (Kd.R_ne HO292.out BK269.out (by decide))); have n1_ := Aside0.mk (blk_grown (g := gb277) (o := .cells #[.int .i64 t272, .string t273, .int .i64 t274] 24 (0, 0)) (by (with_reducible repeat (first | refine blk_drewN ?_ _ | refine blk_drew ?_ | refine blk_alloc ?_ _)); exact BK277.out) hg (Kd.R_ne HO292.out BK277.out (by decide))); have n2_ := Aside0.mk (Kd.R_after (ok := (fun _ => True)) (by (with_reducible repeat (first | apply Kd.R_alloc | apply Kd.R_drewN | apply Kd.R_drew)); exact HO307.out) hg hat); have n3_ := Aside0.mk (hb); have n4_ := Aside0.mk (ho); clear BK269; clear BK277; clear HO307; clear HB; clear HO292; have BK269 := n0_; have BK277 := n1_; have HO307 := n2_; have HB := n3_; have HO310 := n4_; clear n0_ n1_ n2_ n3_ n4_; clear ho hb hg hat; have hcz58_0 : w56.cell? ⟨gb269, 0, none⟩ = some (.slice A0_0 l0_0.length c0_0) := (blk_cell BK269.out 0).trans rfl; have hcz58_1 : w56.cell? ⟨gb269, 1, none⟩ = some (.int .i64 a0_1) := (blk_cell BK269.out 1).trans rfl; have hcz58_2 : w56.cell? ⟨gb269, 2, none⟩ = some (.int .i64 a0_2) := (blk_cell BK269.out 2).trans rfl; have hcz58_3 : w56.cell? ⟨gb269, 3, none⟩ = some (.string a0_3) := (blk_cell BK269.out 3).trans rfl; have hcz58_4 : w56.cell? ⟨gb269, 4, none⟩ = some (.int .i64 a0_4) := (blk_cell BK269.out 4).trans rfl; have hfz58_0 := blk_frozen BK269.out 0; have hfz58_1 := blk_frozen BK269.out 1; have hfz58_2 := blk_frozen BK269.out 2; have hfz58_3 := blk_frozen BK269.out 3; have hfz58_4 := blk_frozen BK269.out 4; obtain ⟨Ao59, co59, eo59⟩ := Kd.R_slice HO310.out; subst eo59) | ((with_reducible refine gate_callee (f := 11) rfl ?_); refine goesL_ (some 93) rfl rfl Try.func11 (by kernel_rfl) rfl #[.slice Ao59 y308.length co59, .int .i64 0, .slice A1 l1.length c1, .agg #[.int .i64 a0_2, .string a0_3, .int .i64 a0_4]] rfl (by (try simp only [List.map_toArray, List.map_cons, List.map_nil]); first | done | rfl | (simp only [List.length_drop, List.length_take]; rfl)) ?_; (with_reducible refine (asmexpr_Eval.calls _ _ y308 0 _ _ l1 a0_2 a0_3 a0_4 t311 t312 t313 t314 t315 _ ?side1 ?side2 ?side3 ?side4 A41.out).mono ?_); (case side1 => repeat (first | exact (Kd.R_reads' HO310.out).2.2 | (with_reducible refine Kd.C_alloc ?_ _) | (with_reducible refine Kd.C_drewN ?_ _) | (with_reducible refine Kd.C_drew ?_))); (case side2 => exact (Kd.R_reads' HO310.out).2.1); (case side3 => repeat (first | exact (Kd.C_below HR1.out HB.out) | (with_reducible refine Kd.C_alloc ?_ _) | (with_reducible refine Kd.C_drewN ?_ _) | (with_reducible refine Kd.C_drew ?_))); (case side4 => exact HC1.out); rintro e w60 ⟨rfl, hb⟩; refine ⟨_, rfl, ?_⟩; have n0_ := Aside0.mk (Kd.R_below (by (with_reducible repeat (first | apply Kd.R_alloc | apply Kd.R_drewN | apply Kd.R_drew)); exact HO307.out) hb); have n1_ := Aside0.mk (Kd.R_below (by (with_reducible repeat (first | apply Kd.R_alloc | apply Kd.R_drewN | apply Kd.R_drew)); exact HO310.out) hb); have n2_ := Aside0.mk (blk_below (g := gb269) (o := .cells #[.slice A0_0 l0_0.length c0_0, .int .i64 a0_1, .int .i64 a0_2, .string a0_3, .int .i64 a0_4] 26 (0, 0)) (by (with_reducible repeat (first | refine blk_drewN ?_ _ | refine blk_drew ?_ | refine blk_alloc ?_ _)); exact BK269.out) hb); have n3_ := Aside0.mk (blk_below (g := gb277) (o := .cells #[.int .i64 t272, .string t273, .int .i64 t274] 24 (0, 0)) (by (with_reducible repeat (first | refine blk_drewN ?_ _ | refine blk_drew ?_ | refine blk_alloc ?_ _)); exact BK277.out) hb); have n4_ := Aside0.mk (below_step (by repeat (first | (with_reducible first | exact HB.out | apply below_alloc | apply pw_below_drewN | apply below_drew1 | refine below_set ?_ GE269.out | refine below_set ?_ GE277.out) | exact HB.out)) hb); clear HO307; clear HO310; clear BK269; clear BK277; clear HB; have HO307 := n0_; have HO310 := n1_; have BK269 := n2_; have BK277 := n3_; have HB := n4_; clear n0_ n1_ n2_ n3_ n4_; (try clear hb); (try clear hb2); (try clear hk); (try clear hi)) | ((with_reducible refine gate_dst (N := 9) rfl ?_); (try (refine gate_guard (by rfl) ?_; dsimp only)); refine box_event ?hg (N := 9) ?hd (cs := #[.int .i64 0, .string (⟨#[]⟩ : ByteArray), .int .i64 0]) (t := 24) ?hr ?_; (case hd => rfl); (case hg => rfl); (case hr => first | (go_simp; done) | (go_simp; rfl)); intro gb316 hg w61 hbox hb; have n0_ := Aside0.mk (Kd.R_below (by (with_reducible repeat (first | apply Kd.R_alloc | apply Kd.R_drewN | apply Kd.R_drew)); exact HO307.out) hb); have n1_ := Aside0.mk (Kd.R_below (by (with_reducible repeat (first | apply Kd.R_alloc | apply Kd.R_drewN | apply Kd.R_drew)); exact HO310.out) hb); have n2_ := Aside0.mk (blk_below (g := gb269) (o := .cells #[.slice A0_0 l0_0.length c0_0, .int .i64 a0_1, .int .i64 a0_2, .string a0_3, .int .i64 a0_4] 26 (0, 0)) (by (with_reducible repeat (first | refine blk_drewN ?_ _ | refine blk_drew ?_ | refine blk_alloc ?_ _)); exact BK269.out) hb); have n3_ := Aside0.mk (blk_below (g := gb277) (o := .cells #[.int .i64 t272, .string t273, .int .i64 t274] 24 (0, 0)) (by (with_reducible repeat (first | refine blk_drewN ?_ _ | refine blk_drew ?_ | refine blk_alloc ?_ _)); exact BK277.out) hb); have n4_ := Aside0.mk (below_step (by repeat (first | (with_reducible first | exact HB.out | apply below_alloc | apply pw_below_drewN | apply below_drew1 | refine below_set ?_ GE269.out | refine below_set ?_ GE277.out) | exact HB.out)) hb); have n5_ := Aside0.mk (hbox); have n6_ := Aside0.mk ((by rw [hg]; exact (below_size (by repeat (first | (with_reducible first | exact HB.out | apply below_alloc | apply pw_below_drewN | apply below_drew1 | refine below_set ?_ GE269.out | refine below_set ?_ GE277.out) | exact HB.out))) : w.heap.size ≤ gb316)); have n7_ := Aside0.mk ((by rw [hg]; exact (below_size (by repeat (first | (with_reducible first | exact HB.out | apply below_alloc | apply pw_below_drewN | apply below_drew1 | refine below_set ?_ GE269.out | refine below_set ?_ GE277.out) | exact HB.out))) : w.heap.size ≤ gb316)); have n8_ := Aside0.mk ((by rw [hg]; exact Nat.ne_of_lt (blk_lt (g := gb269) (o := .cells #[.slice A0_0 l0_0.length c0_0, .int .i64 a0_1, .int .i64 a0_2, .string a0_3, .int .i64 a0_4] 26 (0, 0)) (by (with_reducible repeat (first | refine blk_drewN ?_ _ | refine blk_drew ?_ | refine blk_alloc ?_ _)); exact BK269.out)) : gb269 ≠ gb316)); have n9_ := Aside0.mk ((by rw [hg]; exact Nat.ne_of_gt (blk_lt (g := gb269) (o := .cells #[.slice A0_0 l0_0.length c0_0, .int .i64 a0_1, .int .i64 a0_2, .string a0_3, .int .i64 a0_4] 26 (0, 0)) (by (with_reducible repeat (first | refine blk_drewN ?_ _ | refine blk_drew ?_ | refine blk_alloc ?_ _)); exact BK269.out)) : gb316 ≠ gb269)); have n10_ := Aside0.mk ((by rw [hg]; exact Nat.ne_of_lt (blk_lt (g := gb277) (o := .cells #[.int .i64 t272, .string t273, .int .i64 t274] 24 (0, 0)) (by (with_reducible repeat (first | refine blk_drewN ?_ _ | refine blk_drew ?_ | refine blk_alloc ?_ _)); exact BK277.out)) : gb277 ≠ gb316)); have n11_ := Aside0.mk ((by rw [hg]; exact Nat.ne_of_gt (blk_lt (g := gb277) (o := .cells #[.int .i64 t272, .string t273, .int .i64 t274] 24 (0, 0)) (by (with_reducible repeat (first | refine blk_drewN ?_ _ | refine blk_drew ?_ | refine blk_alloc ?_ _)); exact BK277.out)) : gb316 ≠ gb277)); clear HO307; clear HO310; clear BK269; clear BK277; clear HB; have HO307 := n0_; have HO310 := n1_; have BK269 := n2_; have BK277 := n3_; have HB := n4_; have BK316 := n5_; have GW316 := n6_; have GE316 := n7_; have NB269_316 := n8_; have NB316_269 := n9_; have NB277_316 := n10_; have NB316_277 := n11_; clear n0_ n1_ n2_ n3_ n4_ n5_ n6_ n7_ n8_ n9_ n10_ n11_; clear hb hbox hg; have hnb62 := NB316_269.out; have hnc62 := NB269_316.out; have hnb63 := NB316_277.out; have hnc63 := NB277_316.out; have hcz64_0 : w61.cell? ⟨gb316, 0, none⟩ = some (.int .i64 0) := (blk_cell BK316.out 0).trans rfl; have hcz64_1 : w61.cell? ⟨gb316, 1, none⟩ = some (.string (⟨#[]⟩ : ByteArray)) := (blk_cell BK316.out 1).trans rfl; have hcz64_2 : w61.cell? ⟨gb316, 2, none⟩ = some (.int .i64 0) := (blk_cell BK316.out 2).trans rfl; have hfz64_0 := blk_frozen BK316.out 0; have hfz64_1 := blk_frozen BK316.out 1; have hfz64_2 := blk_frozen BK316.out 2) | ((with_reducible refine gate_callee (f := 13) rfl ?_); refine goesL_ (some 99) rfl rfl Try.func13 (by kernel_rfl) rfl #[] rfl (by (try simp only [List.map_toArray, List.map_cons, List.map_nil]); first | done | rfl | (simp only [List.length_drop, List.length_take]; rfl)) ?_; (with_reducible refine (emulatorlaw26_alive.calls  t317 _ A43.out).mono ?_); rintro e w65 ⟨rfl, hb⟩; refine ⟨_, rfl, ?_⟩; have n0_ := Aside0.mk (Kd.R_below (by (with_reducible repeat (first | apply Kd.R_alloc | apply Kd.R_drewN | apply Kd.R_drew)); exact (Kd.R_mono (Kd.R_far (p := ⟨gb316, 2, none⟩) (Kd.R_far (p := ⟨gb316, 1, none⟩) (Kd.R_far (p := ⟨gb316, 0, none⟩) (Kd.R_types HO307.out BK316.out (by decide)) (fun _ hk => hk.2) (.int .i64 t311)) (fun _ hk => hk.2) (.string t312)) (fun _ hk => hk.2) (.int .i64 t313)) (fun _ h_ => h_.1))) hb); have n1_ := Aside0.mk (Kd.R_below (by (with_reducible repeat (first | apply Kd.R_alloc | apply Kd.R_drewN | apply Kd.R_drew)); exact (Kd.R_mono (Kd.R_far (p := ⟨gb316, 2, none⟩) (Kd.R_far (p := ⟨gb316, 1, none⟩) (Kd.R_far (p := ⟨gb316, 0, none⟩) (Kd.R_types HO310.out BK316.out (by decide)) (fun _ hk => hk.2) (.int .i64 t311)) (fun _ hk => hk.2) (.string t312)) (fun _ hk => hk.2) (.int .i64 t313)) (fun _ h_ => h_.1))) hb); have n2_ := Aside0.mk (blk_below (g := gb269) (o := .cells #[.slice A0_0 l0_0.length c0_0, .int .i64 a0_1, .int .i64 a0_2, .string a0_3, .int .i64 a0_4] 26 (0, 0)) (by (with_reducible repeat (first | refine blk_drewN ?_ _ | refine blk_drew ?_ | refine blk_alloc ?_ _)); refine blk_far ?_ NB269_316.out _; (with_reducible repeat (first | refine blk_drewN ?_ _ | refine blk_drew ?_ | refine blk_alloc ?_ _)); refine blk_far ?_ NB269_316.out _; (with_reducible repeat (first | refine blk_drewN ?_ _ | refine blk_drew ?_ | refine blk_alloc ?_ _)); refine blk_far ?_ NB269_316.out _; (with_reducible repeat (first | refine blk_drewN ?_ _ | refine blk_drew ?_ | refine blk_alloc ?_ _)); exact BK269.out) hb); have n3_ := Aside0.mk (blk_below (g := gb277) (o := .cells #[.int .i64 t272, .string t273, .int .i64 t274] 24 (0, 0)) (by (with_reducible repeat (first | refine blk_drewN ?_ _ | refine blk_drew ?_ | refine blk_alloc ?_ _)); refine blk_far ?_ NB277_316.out _; (with_reducible repeat (first | refine blk_drewN ?_ _ | refine blk_drew ?_ | refine blk_alloc ?_ _)); refine blk_far ?_ NB277_316.out _; (with_reducible repeat (first | refine blk_drewN ?_ _ | refine blk_drew ?_ | refine blk_alloc ?_ _)); refine blk_far ?_ NB277_316.out _; (with_reducible repeat (first | refine blk_drewN ?_ _ | refine blk_drew ?_ | refine blk_alloc ?_ _)); exact BK277.out) hb); have n4_ := Aside0.mk (blk_below (g := gb316) (o := .cells #[.int .i64 t311, .string t312, .int .i64 t313] 24 (0, 0)) (by (with_reducible repeat (first | refine blk_drewN ?_ _ | refine blk_drew ?_ | refine blk_alloc ?_ _)); refine blk_put (cs := #[.int .i64 t311, .string t312, .int .i64 0]) ?_ 2 _ rfl; (with_reducible repeat (first | refine blk_drewN ?_ _ | refine blk_drew ?_ | refine blk_alloc ?_ _)); refine blk_put (cs := #[.int .i64 t311, .string (⟨#[]⟩ : ByteArray), .int .i64 0]) ?_ 1 _ rfl; (with_reducible repeat (first | refine blk_drewN ?_ _ | refine blk_drew ?_ | refine blk_alloc ?_ _)); refine blk_put (cs := #[.int .i64 0, .string (⟨#[]⟩ : ByteArray), .int .i64 0]) ?_ 0 _ rfl; (with_reducible repeat (first | refine blk_drewN ?_ _ | refine blk_drew ?_ | refine blk_alloc ?_ _)); exact BK316.out) hb); have n5_ := Aside0.mk (below_step (by repeat (first | (with_reducible first | exact HB.out | apply below_alloc | apply pw_below_drewN | apply below_drew1 | refine below_set ?_ GE269.out | refine below_set ?_ GE277.out | refine below_set ?_ GE316.out) | exact HB.out)) hb); clear HO307; clear HO310; clear BK269; clear BK277; clear BK316; clear HB; have HO307 := n0_; have HO310 := n1_; have BK269 := n2_; have BK277 := n3_; have BK316 := n4_; have HB := n5_; clear n0_ n1_ n2_ n3_ n4_ n5_; (try clear hb); (try clear hb2); (try clear hk); (try clear hi)))
                            go_ret
                            exact ⟨by first | rfl | (simp [errW_none, errW_some] <;> rfl) | (simp [*, errW_none, errW_some] <;> rfl), by repeat (first | (with_reducible first | exact HB.out | apply below_alloc | apply pw_below_drewN | apply below_drew1 | refine below_set ?_ GE269.out | refine below_set ?_ GE277.out | refine below_set ?_ GE316.out) | exact HB.out)⟩
                          · rw [if_neg c42] at H
                            have c42b0 : (t315 == 7) = false := beq_eq_false_iff_ne.mpr c42
                            have c42b1 : (t315 != 7) = true := bne_iff_ne.mpr c42
                            by_cases c66 : t315 = 0
                            · rw [if_pos c66] at H
                              have c66b0 : (t315 == 0) = true := beq_iff_eq.mpr c66
                              have c66b1 : (t315 != 0) = false := bne_eq_false_iff_eq.mpr c66
                              clear c66
                              by_cases c67 : (t272 == t311 && (t273.toList == t312.toList && (t274 == t313))) = true
                              · rw [if_pos c67] at H
                                have c67b0 : (t272 == t311 && (t273.toList == t312.toList && (t274 == t313))) = true := c67
                                (try (have c67b1 : decide (t272 = t311 && (t273.toList == t312.toList && (t274 == t313))) = true := by simpa using c67))
                                (try (have c67b2 : (t272 == t311 && (t273.toList == t312.toList && (t274 == t313))) = true := by simpa using c67))
                                clear c67
                                by_cases c68 : t314 = (wrap64 ((wrap64 (t275 - a0_1)) + 2))
                                · rw [if_pos c68] at H
                                  have c68b0 : (t314 == (wrap64 ((wrap64 (t275 - a0_1)) + 2))) = true := beq_iff_eq.mpr c68
                                  have c68b1 : (t314 != (wrap64 ((wrap64 (t275 - a0_1)) + 2))) = false := bne_eq_false_iff_eq.mpr c68
                                  clear c68
                                  replace H := Option.bind_eq_some_iff.mp H
                                  obtain ⟨t318, A690, H⟩ := H
                                  replace H : (some t318) = some r := H
                                  have A69 := Aside0.mk A690
                                  clear A690
                                  obtain rfl := Option.some.inj H
                                  go_wp2_with (first | ((with_reducible refine gate_callee (f := 16) rfl ?_); refine goesL_ (some 72) rfl rfl Try.func16 (by kernel_rfl) rfl #[.string (⟨#[40]⟩ : ByteArray)] rfl (by (try simp only [List.map_toArray, List.map_cons, List.map_nil]); first | done | rfl | (simp only [List.length_drop, List.length_take]; rfl)) ?_; (with_reducible refine (emulatorlaw26_symbol.calls (⟨#[40]⟩ : ByteArray) t279 t280 t281 t282 _ A32.out).mono ?_); rintro e w70 ⟨rfl, hb⟩; refine ⟨_, rfl, ?_⟩; have n0_ := Aside0.mk (blk_below (g := gb269) (o := .cells #[.slice A0_0 l0_0.length c0_0, .int .i64 a0_1, .int .i64 a0_2, .string a0_3, .int .i64 a0_4] 26 (0, 0)) (by (with_reducible repeat (first | refine blk_drewN ?_ _ | refine blk_drew ?_ | refine blk_alloc ?_ _)); exact BK269.out) hb); have n1_ := Aside0.mk (blk_below (g := gb277) (o := .cells #[.int .i64 t272, .string t273, .int .i64 t274] 24 (0, 0)) (by (with_reducible repeat (first | refine blk_drewN ?_ _ | refine blk_drew ?_ | refine blk_alloc ?_ _)); exact BK277.out) hb); have n2_ := Aside0.mk (below_step (by repeat (first | (with_reducible first | exact HB.out | apply below_alloc | apply pw_below_drewN | apply below_drew1 | refine below_set ?_ GE269.out | refine below_set ?_ GE277.out) | exact HB.out)) hb); clear BK269; clear BK277; clear HB; have BK269 := n0_; have BK277 := n1_; have HB := n2_; clear n0_ n1_ n2_; (try clear hb); (try clear hb2); (try clear hk); (try clear hi)) | ((with_reducible refine gate_dst (N := 73) rfl ?_); (try (refine gate_guard (by rfl) ?_; dsimp only)); refine Kd.R_lit k38 _ 38 ?hg (N := 73) ?hd (xs := ([(⟨t279, t280, t281, t282⟩ : S38)] : List (S38))) (inner := [.int .i64 t279, .string t280, .int .i64 t281, .int .i64 t282]) (ok := fun _ => True) (okp := fun _ => True) ?hr ?hp (fun _ hk => hk) trivial (Below.refl _ _) (Nat.le_refl _) (by simp) ?_; (case hd => rfl); (case hg => rfl); (case hr => first | (go_simp; done) | (go_simp; rfl)); (case hp => exact (Reps.c4 (show Kd.M k38 _ _ _ (⟨t279, t280, t281, t282⟩ : S38) [.int .i64 t279, .string t280, .int .i64 t281, .int .i64 t282] from (k38_mkM _ _ _ (⟨t279, t280, t281, t282⟩ : S38) )) (Reps.none _ _))); intro v284 w71 ho72 hb hg_ hnew_; clear hg_ hnew_; (first | rw [← Ny283.out] at ho72 | (simp only [Int.reduceToNat] at ho72; rw [← Ny283.out] at ho72)); have n0_ := Aside0.mk (Kd.R_lower ho72 (below_size (by repeat (first | (with_reducible first | exact HB.out | apply below_alloc | apply pw_below_drewN | apply below_drew1 | refine below_set ?_ GE269.out | refine below_set ?_ GE277.out) | exact HB.out)))); have n1_ := Aside0.mk (blk_below (g := gb269) (o := .cells #[.slice A0_0 l0_0.length c0_0, .int .i64 a0_1, .int .i64 a0_2, .string a0_3, .int .i64 a0_4] 26 (0, 0)) (by (with_reducible repeat (first | refine blk_drewN ?_ _ | refine blk_drew ?_ | refine blk_alloc ?_ _)); exact BK269.out) hb); have n2_ := Aside0.mk (blk_below (g := gb277) (o := .cells #[.int .i64 t272, .string t273, .int .i64 t274] 24 (0, 0)) (by (with_reducible repeat (first | refine blk_drewN ?_ _ | refine blk_drew ?_ | refine blk_alloc ?_ _)); exact BK277.out) hb); have n3_ := Aside0.mk (below_step (by repeat (first | (with_reducible first | exact HB.out | apply below_alloc | apply pw_below_drewN | apply below_drew1 | refine below_set ?_ GE269.out | refine below_set ?_ GE277.out) | exact HB.out)) hb); clear BK269; clear BK277; clear HB; have HO285 := n0_; have BK269 := n1_; have BK277 := n2_; have HB := n3_; clear n0_ n1_ n2_ n3_; clear hb ho72; have hnb73 := NB269_277.out; have hnc73 := NB277_269.out; have hcz74_0 : w71.cell? ⟨gb269, 0, none⟩ = some (.slice A0_0 l0_0.length c0_0) := (blk_cell BK269.out 0).trans rfl; have hcz74_1 : w71.cell? ⟨gb269, 1, none⟩ = some (.int .i64 a0_1) := (blk_cell BK269.out 1).trans rfl; have hcz74_2 : w71.cell? ⟨gb269, 2, none⟩ = some (.int .i64 a0_2) := (blk_cell BK269.out 2).trans rfl; have hcz74_3 : w71.cell? ⟨gb269, 3, none⟩ = some (.string a0_3) := (blk_cell BK269.out 3).trans rfl; have hcz74_4 : w71.cell? ⟨gb269, 4, none⟩ = some (.int .i64 a0_4) := (blk_cell BK269.out 4).trans rfl; have hfz74_0 := blk_frozen BK269.out 0; have hfz74_1 := blk_frozen BK269.out 1; have hfz74_2 := blk_frozen BK269.out 2; have hfz74_3 := blk_frozen BK269.out 3; have hfz74_4 := blk_frozen BK269.out 4; have q75 : (t275 : Int) ≤ ((l0_0.length : Int) : Int) := of_decide_eq_true (by first | (with_reducible assumption) | assumption); obtain ⟨i075, hi075, _, hsz75, _⟩ := info_parts info38; have hroom75 : l0_0.length ≤ c0_0 := HC0_0.out; have hC75 : Kd.C k38 _ A0_0 l0_0.length l0_0 := HR0_0.out; have ql75 : (a0_1 : Int) ≤ (t275 : Int) := of_decide_eq_true (by first | (with_reducible assumption) | assumption); have q075 : (0 : Int) ≤ (a0_1 : Int) := of_decide_eq_true (by first | (with_reducible assumption) | assumption); have hcut75 := cut_mid (P := Try.prog) 22 38 .i64 .i64 Try.underlying22 hi075 4 hsz75 A0_0 l0_0.length c0_0 a0_1 t275 q075 ql75 q75 hroom75; have hr75 := Kd.C_mid (lo := (a0_1 : Int).toNat) (hi := (t275 : Int).toNat) (c := c0_0) hC75 (by omega) (by omega) hroom75; obtain ⟨A75, hA75⟩ : ∃ A1, A1 = (if c0_0 = (a0_1 : Int).toNat then A0_0 else (A0_0 : Option Addr).map (·.add ((a0_1 : Int).toNat * 4))) := ⟨_, rfl⟩; obtain ⟨c75, hc75⟩ : ∃ c1, c1 = c0_0 - (a0_1 : Int).toNat := ⟨_, rfl⟩; have hy75 : y286.length = (t275 : Int).toNat - (a0_1 : Int).toNat := (by rw [Ny286.out, List.length_drop, List.length_take] <;> omega); rw [show ((l0_0).take (t275 : Int).toNat).drop (a0_1 : Int).toNat = y286 from Ny286.out.symm] at hr75; replace hr75 : Kd.C k38 _ A75 y286.length y286 := (by rw [hA75]; exact hr75); rw [← hy75, ← hA75, ← hc75] at hcut75; have HR289 := Aside0.mk hr75; have HC289 := Aside0.mk (show y286.length ≤ c75 from by rw [hy75, hc75]; exact Nat.sub_le_sub_right (Nat.le_trans (by omega) hroom75) _); clear hr75 hC75 hroom75 hi075 hsz75 hc75; have KY75 := Aside0.mk hy75; have KA75 := Aside0.mk hA75; clear hy75 hA75; replace q75 := eq_true q75) | ((with_reducible refine gate_builtin (b := .append) (xs := #[.tmp 74, .tmp 80]) rfl ?_); (try (refine gate_guard (by rfl) ?_; dsimp only)); at_builtin; refine Kd.R_append_rows k38 (w0 := w) w.heap.size rfl (.tmp 74) (.tmp 80) 22 38 (.agg #[(.int .i64 0), (.string ⟨#[]⟩), (.int .i64 0), (.int .i64 0)]) 40 rfl Try.underlying22 info38 rfl (by decide) (by omega) v284 y283 y286 _ _ _ (fun _ => True) (fun _ => False) rfl rfl ?aO ?aR (fun _ _ h => h) (fun _ h => h.elim) ?aF ?aB ?aS ?aL ?_; (case aR => repeat (first | exact (Kd.C_below HR289.out HB.out) | (with_reducible refine Kd.C_alloc ?_ _) | (with_reducible refine Kd.C_drewN ?_ _) | (with_reducible refine Kd.C_drew ?_))); (case aB => exact (by repeat (first | (with_reducible first | exact HB.out | apply below_alloc | apply pw_below_drewN | apply below_drew1 | refine below_set ?_ GE269.out | refine below_set ?_ GE277.out) | exact HB.out))); (case aF => exact (fun _ _ => trivial)); (case aO => exact (by (with_reducible repeat (first | apply Kd.R_alloc | apply Kd.R_drewN | apply Kd.R_drew)); exact HO285.out)); (case aS => exact (below_size (by repeat (first | (with_reducible first | exact HB.out | apply below_alloc | apply pw_below_drewN | apply below_drew1 | refine below_set ?_ GE269.out | refine below_set ?_ GE277.out) | exact HB.out)))); (case aL => have := LMc36.out; omega); intro v291 w76 ho hb hg hat; rw [← Ny290.out] at ho; have n0_ := Aside0.mk (blk_grown (g := gb269) (o := .cells #[.slice A0_0 l0_0.length c0_0, .int .i64 a0_1, .int .i64 a0_2, .string a0_3, .int .i64 a0_4] 26 (0, 0)) (by (with_reducible repeat (first | refine blk_drewN ?_ _ | refine blk_drew ?_ | refine blk_alloc ?_ _)); exact BK269.out) hg (Kd.R_ne HO285.out BK269.out (by decide))); have n1_ := Aside0.mk (blk_grown (g := gb277) (o := .cells #[.int .i64 t272, .string t273, .int .i64 t274] 24 (0, 0)) (by (with_reducible repeat (first | refine blk_drewN ?_ _ | refine blk_drew ?_ | refine blk_alloc ?_ _)); exact BK277.out) hg (Kd.R_ne HO285.out BK277.out (by decide))); have n2_ := Aside0.mk (hb); have n3_ := Aside0.mk (ho); clear BK269; clear BK277; clear HB; clear HO285; have BK269 := n0_; have BK277 := n1_; have HB := n2_; have HO292 := n3_; clear n0_ n1_ n2_ n3_; clear ho hb hg hat) | ((with_reducible refine gate_callee (f := 16) rfl ?_); refine goesL_ (some 83) rfl rfl Try.func16 (by kernel_rfl) rfl #[.string (⟨#[41]⟩ : ByteArray)] rfl (by (try simp only [List.map_toArray, List.map_cons, List.map_nil]); first | done | rfl | (simp only [List.length_drop, List.length_take]; rfl)) ?_; (with_reducible refine (emulatorlaw26_symbol.calls (⟨#[41]⟩ : ByteArray) t293 t294 t295 t296 _ A37.out).mono ?_); rintro e w77 ⟨rfl, hb⟩; refine ⟨_, rfl, ?_⟩; have n0_ := Aside0.mk (Kd.R_below (by (with_reducible repeat (first | apply Kd.R_alloc | apply Kd.R_drewN | apply Kd.R_drew)); exact HO292.out) hb); have n1_ := Aside0.mk (blk_below (g := gb269) (o := .cells #[.slice A0_0 l0_0.length c0_0, .int .i64 a0_1, .int .i64 a0_2, .string a0_3, .int .i64 a0_4] 26 (0, 0)) (by (with_reducible repeat (first | refine blk_drewN ?_ _ | refine blk_drew ?_ | refine blk_alloc ?_ _)); exact BK269.out) hb); have n2_ := Aside0.mk (blk_below (g := gb277) (o := .cells #[.int .i64 t272, .string t273, .int .i64 t274] 24 (0, 0)) (by (with_reducible repeat (first | refine blk_drewN ?_ _ | refine blk_drew ?_ | refine blk_alloc ?_ _)); exact BK277.out) hb); have n3_ := Aside0.mk (below_step (by repeat (first | (with_reducible first | exact HB.out | apply below_alloc | apply pw_below_drewN | apply below_drew1 | refine below_set ?_ GE269.out | refine below_set ?_ GE277.out) | exact HB.out)) hb); clear HO292; clear BK269; clear BK277; clear HB; have HO292 := n0_; have BK269 := n1_; have BK277 := n2_; have HB := n3_; clear n0_ n1_ n2_ n3_; (try clear hb); (try clear hb2); (try clear hk); (try clear hi)) | ((with_reducible refine gate_callee (f := 16) rfl ?_); refine goesL_ (some 84) rfl rfl Try.func16 (by kernel_rfl) rfl #[.string (⟨#[44]⟩ : ByteArray)] rfl (by (try simp only [List.map_toArray, List.map_cons, List.map_nil]); first | done | rfl | (simp only [List.length_drop, List.length_take]; rfl)) ?_; (with_reducible refine (emulatorlaw26_symbol.calls (⟨#[44]⟩ : ByteArray) t297 t298 t299 t300 _ A38.out).mono ?_); rintro e w78 ⟨rfl, hb⟩; refine ⟨_, rfl, ?_⟩; have n0_ := Aside0.mk (Kd.R_below (by (with_reducible repeat (first | apply Kd.R_alloc | apply Kd.R_drewN | apply Kd.R_drew)); exact HO292.out) hb); have n1_ := Aside0.mk (blk_below (g := gb269) (o := .cells #[.slice A0_0 l0_0.length c0_0, .int .i64 a0_1, .int .i64 a0_2, .string a0_3, .int .i64 a0_4] 26 (0, 0)) (by (with_reducible repeat (first | refine blk_drewN ?_ _ | refine blk_drew ?_ | refine blk_alloc ?_ _)); exact BK269.out) hb); have n2_ := Aside0.mk (blk_below (g := gb277) (o := .cells #[.int .i64 t272, .string t273, .int .i64 t274] 24 (0, 0)) (by (with_reducible repeat (first | refine blk_drewN ?_ _ | refine blk_drew ?_ | refine blk_alloc ?_ _)); exact BK277.out) hb); have n3_ := Aside0.mk (below_step (by repeat (first | (with_reducible first | exact HB.out | apply below_alloc | apply pw_below_drewN | apply below_drew1 | refine below_set ?_ GE269.out | refine below_set ?_ GE277.out) | exact HB.out)) hb); clear HO292; clear BK269; clear BK277; clear HB; have HO292 := n0_; have BK269 := n1_; have BK277 := n2_; have HB := n3_; clear n0_ n1_ n2_ n3_; (try clear hb); (try clear hb2); (try clear hk); (try clear hi)) | ((with_reducible refine gate_callee (f := 17) rfl ?_); refine goesL_ (some 85) rfl rfl Try.func17 (by kernel_rfl) rfl #[.int .i64 1] rfl (by (try simp only [List.map_toArray, List.map_cons, List.map_nil]); first | done | rfl | (simp only [List.length_drop, List.length_take]; rfl)) ?_; (with_reducible refine (emulatorlaw26_number.calls 1 t301 t302 t303 t304 _ A39.out).mono ?_); rintro e w79 ⟨rfl, hb⟩; refine ⟨_, rfl, ?_⟩; have n0_ := Aside0.mk (Kd.R_below (by (with_reducible repeat (first | apply Kd.R_alloc | apply Kd.R_drewN | apply Kd.R_drew)); exact HO292.out) hb); have n1_ := Aside0.mk (blk_below (g := gb269) (o := .cells #[.slice A0_0 l0_0.length c0_0, .int .i64 a0_1, .int .i64 a0_2, .string a0_3, .int .i64 a0_4] 26 (0, 0)) (by (with_reducible repeat (first | refine blk_drewN ?_ _ | refine blk_drew ?_ | refine blk_alloc ?_ _)); exact BK269.out) hb); have n2_ := Aside0.mk (blk_below (g := gb277) (o := .cells #[.int .i64 t272, .string t273, .int .i64 t274] 24 (0, 0)) (by (with_reducible repeat (first | refine blk_drewN ?_ _ | refine blk_drew ?_ | refine blk_alloc ?_ _)); exact BK277.out) hb); have n3_ := Aside0.mk (below_step (by repeat (first | (with_reducible first | exact HB.out | apply below_alloc | apply pw_below_drewN | apply below_drew1 | refine below_set ?_ GE269.out | refine below_set ?_ GE277.out) | exact HB.out)) hb); clear HO292; clear BK269; clear BK277; clear HB; have HO292 := n0_; have BK269 := n1_; have BK277 := n2_; have HB := n3_; clear n0_ n1_ n2_ n3_; (try clear hb); (try clear hb2); (try clear hk); (try clear hi)) | ((with_reducible refine gate_dst (N := 86) rfl ?_); (try (refine gate_guard (by rfl) ?_; dsimp only)); refine Kd.R_lit k38 _ 38 ?hg (N := 86) ?hd (xs := ([(⟨t293, t294, t295, t296⟩ : S38), (⟨t297, t298, t299, t300⟩ : S38), (⟨t301, t302, t303, t304⟩ : S38)] : List (S38))) (inner := [.int .i64 t293, .string t294, .int .i64 t295, .int .i64 t296, .int .i64 t297, .string t298, .int .i64 t299, .int .i64 t300, .int .i64 t301, .string t302, .int .i64 t303, .int .i64 t304]) (ok := fun _ => True) (okp := fun _ => True) ?hr ?hp (fun _ hk => hk) trivial (Below.refl _ _) (Nat.le_refl _) (by simp) ?_; (case hd => rfl); (case hg => rfl); (case hr => first | (go_simp; done) | (go_simp; rfl)); (case hp => exact (Reps.c4 (show Kd.M k38 _ _ _ (⟨t293, t294, t295, t296⟩ : S38) [.int .i64 t293, .string t294, .int .i64 t295, .int .i64 t296] from (k38_mkM _ _ _ (⟨t293, t294, t295, t296⟩ : S38) )) (Reps.c4 (show Kd.M k38 _ _ _ (⟨t297, t298, t299, t300⟩ : S38) [.int .i64 t297, .string t298, .int .i64 t299, .int .i64 t300] from (k38_mkM _ _ _ (⟨t297, t298, t299, t300⟩ : S38) )) (Reps.c4 (show Kd.M k38 _ _ _ (⟨t301, t302, t303, t304⟩ : S38) [.int .i64 t301, .string t302, .int .i64 t303, .int .i64 t304] from (k38_mkM _ _ _ (⟨t301, t302, t303, t304⟩ : S38) )) (Reps.none _ _))))); intro v306 w80 ho81 hb hg_ hnew_; clear hg_ hnew_; (first | rw [← Ny305.out] at ho81 | (simp only [Int.reduceToNat] at ho81; rw [← Ny305.out] at ho81)); have n0_ := Aside0.mk (Kd.R_elder' (by (with_reducible repeat (first | apply Kd.R_alloc | apply Kd.R_drewN | apply Kd.R_drew)); exact HO292.out) (Kd.R_base ho81) hb); have n1_ := Aside0.mk (Kd.R_lower (Kd.R_new' ho81 (Kd.R_lt (by (with_reducible repeat (first | apply Kd.R_alloc | apply Kd.R_drewN | apply Kd.R_drew)); exact HO292.out))) (below_size (by repeat (first | (with_reducible first | exact HB.out | apply below_alloc | apply pw_below_drewN | apply below_drew1 | refine below_set ?_ GE269.out | refine below_set ?_ GE277.out) | exact HB.out)))); have n2_ := Aside0.mk (blk_below (g := gb269) (o := .cells #[.slice A0_0 l0_0.length c0_0, .int .i64 a0_1, .int .i64 a0_2, .string a0_3, .int .i64 a0_4] 26 (0, 0)) (by (with_reducible repeat (first | refine blk_drewN ?_ _ | refine blk_drew ?_ | refine blk_alloc ?_ _)); exact BK269.out) hb); have n3_ := Aside0.mk (blk_below (g := gb277) (o := .cells #[.int .i64 t272, .string t273, .int .i64 t274] 24 (0, 0)) (by (with_reducible repeat (first | refine blk_drewN ?_ _ | refine blk_drew ?_ | refine blk_alloc ?_ _)); exact BK277.out) hb); have n4_ := Aside0.mk (below_step (by repeat (first | (with_reducible first | exact HB.out | apply below_alloc | apply pw_below_drewN | apply below_drew1 | refine below_set ?_ GE269.out | refine below_set ?_ GE277.out) | exact HB.out)) hb); clear HO292; clear BK269; clear BK277; clear HB; have HO292 := n0_; have HO307 := n1_; have BK269 := n2_; have BK277 := n3_; have HB := n4_; clear n0_ n1_ n2_ n3_ n4_; clear hb ho81; obtain ⟨Ao83, co83, eo83⟩ := Kd.R_slice HO307.out; subst eo83) | ((with_reducible refine gate_builtin (b := .append) (xs := #[.tmp 82, .tmp 86]) rfl ?_); (try (refine gate_guard (by rfl) ?_; dsimp only)); at_builtin; refine Kd.R_append_rows k38 (w0 := w) w.heap.size rfl (.tmp 82) (.tmp 86) 22 38 (.agg #[(.int .i64 0), (.string ⟨#[]⟩), (.int .i64 0), (.int .i64 0)]) 40 rfl Try.underlying22 info38 rfl (by decide) (by omega) v291 y290 y305 _ _ _ (fun k_ => some k_ ≠ (.slice Ao83 y305.length co83 : Value).ownBlock) (fun _ => False) rfl rfl ?aO ?aR (fun _ _ h => h) (fun _ h => h.elim) ?aF ?aB ?aS ?aL ?_; (case aR => repeat (first | exact (Kd.R_reads' HO307.out).2.2 | (with_reducible refine Kd.C_alloc ?_ _) | (with_reducible refine Kd.C_drewN ?_ _) | (with_reducible refine Kd.C_drew ?_))); (case aB => exact (by repeat (first | (with_reducible first | exact HB.out | apply below_alloc | apply pw_below_drewN | apply below_drew1 | refine below_set ?_ GE269.out | refine below_set ?_ GE277.out) | exact HB.out))); (case aF => exact (fun k_ hk => Kd.fresh' (Kd.R_lt (by (with_reducible repeat (first | apply Kd.R_alloc | apply Kd.R_drewN | apply Kd.R_drew)); exact HO307.out)) k_ hk)); (case aO => exact (by (with_reducible repeat (first | apply Kd.R_alloc | apply Kd.R_drewN | apply Kd.R_drew)); exact Kd.R_mono HO292.out (fun _ hk => hk.2))); (case aS => exact (below_size (by repeat (first | (with_reducible first | exact HB.out | apply below_alloc | apply pw_below_drewN | apply below_drew1 | refine below_set ?_ GE269.out | refine below_set ?_ GE277.out) | exact HB.out)))); (case aL => have := LMc40.out; omega); intro v309 w82 ho hb hg hat; rw [← Ny308.out] at ho; have n0_ := Aside0.mk (blk_grown (g := gb269) (o := .cells #[.slice A0_0 l0_0.length c0_0, .int .i64 a0_1, .int .i64 a0_2, .string a0_3, .int .i64 a0_4] 26 (0, 0)) (by (with_reducible repeat (first | refine blk_drewN ?_ _ | refine blk_drew ?_ | refine blk_alloc ?_ _)); exact BK269.out) hg (Kd.R_ne HO292.out BK269.out (by decide))); have n1_ := Aside0.mk (blk_grown (g := gb277) (o := .cells #[.int .i64 t272, .string t273, .int .i64 t274] 24 (0, 0)) (by (with_reducible repeat (first | refine blk_drewN ?_ _ | refine blk_drew ?_ | refine blk_alloc ?_ _)); exact BK277.out) hg (Kd.R_ne HO292.out BK277.out (by decide))); have n2_ := Aside0.mk (Kd.R_after (ok := (fun _ => True)) (by (with_reducible repeat (first | apply Kd.R_alloc | apply Kd.R_drewN | apply Kd.R_drew)); exact HO307.out) hg hat); have n3_ := Aside0.mk (hb); have n4_ := Aside0.mk (ho); clear BK269; clear BK277; clear HO307; clear HB; clear HO292; have BK269 := n0_; have BK277 := n1_; have HO307 := n2_; have HB := n3_; have HO310 := n4_; clear n0_ n1_ n2_ n3_ n4_; clear ho hb hg hat; have hcz84_0 : w82.cell? ⟨gb269, 0, none⟩ = some (.slice A0_0 l0_0.length c0_0) := (blk_cell BK269.out 0).trans rfl; have hcz84_1 : w82.cell? ⟨gb269, 1, none⟩ = some (.int .i64 a0_1) := (blk_cell BK269.out 1).trans rfl; have hcz84_2 : w82.cell? ⟨gb269, 2, none⟩ = some (.int .i64 a0_2) := (blk_cell BK269.out 2).trans rfl; have hcz84_3 : w82.cell? ⟨gb269, 3, none⟩ = some (.string a0_3) := (blk_cell BK269.out 3).trans rfl; have hcz84_4 : w82.cell? ⟨gb269, 4, none⟩ = some (.int .i64 a0_4) := (blk_cell BK269.out 4).trans rfl; have hfz84_0 := blk_frozen BK269.out 0; have hfz84_1 := blk_frozen BK269.out 1; have hfz84_2 := blk_frozen BK269.out 2; have hfz84_3 := blk_frozen BK269.out 3; have hfz84_4 := blk_frozen BK269.out 4; obtain ⟨Ao85, co85, eo85⟩ := Kd.R_slice HO310.out; subst eo85) | ((with_reducible refine gate_callee (f := 11) rfl ?_); refine goesL_ (some 93) rfl rfl Try.func11 (by kernel_rfl) rfl #[.slice Ao85 y308.length co85, .int .i64 0, .slice A1 l1.length c1, .agg #[.int .i64 a0_2, .string a0_3, .int .i64 a0_4]] rfl (by (try simp only [List.map_toArray, List.map_cons, List.map_nil]); first | done | rfl | (simp only [List.length_drop, List.length_take]; rfl)) ?_; (with_reducible refine (asmexpr_Eval.calls _ _ y308 0 _ _ l1 a0_2 a0_3 a0_4 t311 t312 t313 t314 t315 _ ?side1 ?side2 ?side3 ?side4 A41.out).mono ?_); (case side1 => repeat (first | exact (Kd.R_reads' HO310.out).2.2 | (with_reducible refine Kd.C_alloc ?_ _) | (with_reducible refine Kd.C_drewN ?_ _) | (with_reducible refine Kd.C_drew ?_))); (case side2 => exact (Kd.R_reads' HO310.out).2.1); (case side3 => repeat (first | exact (Kd.C_below HR1.out HB.out) | (with_reducible refine Kd.C_alloc ?_ _) | (with_reducible refine Kd.C_drewN ?_ _) | (with_reducible refine Kd.C_drew ?_))); (case side4 => exact HC1.out); rintro e w86 ⟨rfl, hb⟩; refine ⟨_, rfl, ?_⟩; have n0_ := Aside0.mk (Kd.R_below (by (with_reducible repeat (first | apply Kd.R_alloc | apply Kd.R_drewN | apply Kd.R_drew)); exact HO307.out) hb); have n1_ := Aside0.mk (Kd.R_below (by (with_reducible repeat (first | apply Kd.R_alloc | apply Kd.R_drewN | apply Kd.R_drew)); exact HO310.out) hb); have n2_ := Aside0.mk (blk_below (g := gb269) (o := .cells #[.slice A0_0 l0_0.length c0_0, .int .i64 a0_1, .int .i64 a0_2, .string a0_3, .int .i64 a0_4] 26 (0, 0)) (by (with_reducible repeat (first | refine blk_drewN ?_ _ | refine blk_drew ?_ | refine blk_alloc ?_ _)); exact BK269.out) hb); have n3_ := Aside0.mk (blk_below (g := gb277) (o := .cells #[.int .i64 t272, .string t273, .int .i64 t274] 24 (0, 0)) (by (with_reducible repeat (first | refine blk_drewN ?_ _ | refine blk_drew ?_ | refine blk_alloc ?_ _)); exact BK277.out) hb); have n4_ := Aside0.mk (below_step (by repeat (first | (with_reducible first | exact HB.out | apply below_alloc | apply pw_below_drewN | apply below_drew1 | refine below_set ?_ GE269.out | refine below_set ?_ GE277.out) | exact HB.out)) hb); clear HO307; clear HO310; clear BK269; clear BK277; clear HB; have HO307 := n0_; have HO310 := n1_; have BK269 := n2_; have BK277 := n3_; have HB := n4_; clear n0_ n1_ n2_ n3_ n4_; (try clear hb); (try clear hb2); (try clear hk); (try clear hi)) | ((with_reducible refine gate_dst (N := 9) rfl ?_); (try (refine gate_guard (by rfl) ?_; dsimp only)); refine box_event ?hg (N := 9) ?hd (cs := #[.int .i64 0, .string (⟨#[]⟩ : ByteArray), .int .i64 0]) (t := 24) ?hr ?_; (case hd => rfl); (case hg => rfl); (case hr => first | (go_simp; done) | (go_simp; rfl)); intro gb316 hg w87 hbox hb; have n0_ := Aside0.mk (Kd.R_below (by (with_reducible repeat (first | apply Kd.R_alloc | apply Kd.R_drewN | apply Kd.R_drew)); exact HO307.out) hb); have n1_ := Aside0.mk (Kd.R_below (by (with_reducible repeat (first | apply Kd.R_alloc | apply Kd.R_drewN | apply Kd.R_drew)); exact HO310.out) hb); have n2_ := Aside0.mk (blk_below (g := gb269) (o := .cells #[.slice A0_0 l0_0.length c0_0, .int .i64 a0_1, .int .i64 a0_2, .string a0_3, .int .i64 a0_4] 26 (0, 0)) (by (with_reducible repeat (first | refine blk_drewN ?_ _ | refine blk_drew ?_ | refine blk_alloc ?_ _)); exact BK269.out) hb); have n3_ := Aside0.mk (blk_below (g := gb277) (o := .cells #[.int .i64 t272, .string t273, .int .i64 t274] 24 (0, 0)) (by (with_reducible repeat (first | refine blk_drewN ?_ _ | refine blk_drew ?_ | refine blk_alloc ?_ _)); exact BK277.out) hb); have n4_ := Aside0.mk (below_step (by repeat (first | (with_reducible first | exact HB.out | apply below_alloc | apply pw_below_drewN | apply below_drew1 | refine below_set ?_ GE269.out | refine below_set ?_ GE277.out) | exact HB.out)) hb); have n5_ := Aside0.mk (hbox); have n6_ := Aside0.mk ((by rw [hg]; exact (below_size (by repeat (first | (with_reducible first | exact HB.out | apply below_alloc | apply pw_below_drewN | apply below_drew1 | refine below_set ?_ GE269.out | refine below_set ?_ GE277.out) | exact HB.out))) : w.heap.size ≤ gb316)); have n7_ := Aside0.mk ((by rw [hg]; exact (below_size (by repeat (first | (with_reducible first | exact HB.out | apply below_alloc | apply pw_below_drewN | apply below_drew1 | refine below_set ?_ GE269.out | refine below_set ?_ GE277.out) | exact HB.out))) : w.heap.size ≤ gb316)); have n8_ := Aside0.mk ((by rw [hg]; exact Nat.ne_of_lt (blk_lt (g := gb269) (o := .cells #[.slice A0_0 l0_0.length c0_0, .int .i64 a0_1, .int .i64 a0_2, .string a0_3, .int .i64 a0_4] 26 (0, 0)) (by (with_reducible repeat (first | refine blk_drewN ?_ _ | refine blk_drew ?_ | refine blk_alloc ?_ _)); exact BK269.out)) : gb269 ≠ gb316)); have n9_ := Aside0.mk ((by rw [hg]; exact Nat.ne_of_gt (blk_lt (g := gb269) (o := .cells #[.slice A0_0 l0_0.length c0_0, .int .i64 a0_1, .int .i64 a0_2, .string a0_3, .int .i64 a0_4] 26 (0, 0)) (by (with_reducible repeat (first | refine blk_drewN ?_ _ | refine blk_drew ?_ | refine blk_alloc ?_ _)); exact BK269.out)) : gb316 ≠ gb269)); have n10_ := Aside0.mk ((by rw [hg]; exact Nat.ne_of_lt (blk_lt (g := gb277) (o := .cells #[.int .i64 t272, .string t273, .int .i64 t274] 24 (0, 0)) (by (with_reducible repeat (first | refine blk_drewN ?_ _ | refine blk_drew ?_ | refine blk_alloc ?_ _)); exact BK277.out)) : gb277 ≠ gb316)); have n11_ := Aside0.mk ((by rw [hg]; exact Nat.ne_of_gt (blk_lt (g := gb277) (o := .cells #[.int .i64 t272, .string t273, .int .i64 t274] 24 (0, 0)) (by (with_reducible repeat (first | refine blk_drewN ?_ _ | refine blk_drew ?_ | refine blk_alloc ?_ _)); exact BK277.out)) : gb316 ≠ gb277)); clear HO307; clear HO310; clear BK269; clear BK277; clear HB; have HO307 := n0_; have HO310 := n1_; have BK269 := n2_; have BK277 := n3_; have HB := n4_; have BK316 := n5_; have GW316 := n6_; have GE316 := n7_; have NB269_316 := n8_; have NB316_269 := n9_; have NB277_316 := n10_; have NB316_277 := n11_; clear n0_ n1_ n2_ n3_ n4_ n5_ n6_ n7_ n8_ n9_ n10_ n11_; clear hb hbox hg; have hnb88 := NB316_269.out; have hnc88 := NB269_316.out; have hnb89 := NB316_277.out; have hnc89 := NB277_316.out; have hcz90_0 : w87.cell? ⟨gb316, 0, none⟩ = some (.int .i64 0) := (blk_cell BK316.out 0).trans rfl; have hcz90_1 : w87.cell? ⟨gb316, 1, none⟩ = some (.string (⟨#[]⟩ : ByteArray)) := (blk_cell BK316.out 1).trans rfl; have hcz90_2 : w87.cell? ⟨gb316, 2, none⟩ = some (.int .i64 0) := (blk_cell BK316.out 2).trans rfl; have hfz90_0 := blk_frozen BK316.out 0; have hfz90_1 := blk_frozen BK316.out 1; have hfz90_2 := blk_frozen BK316.out 2; have hcz91_0 : w87.cell? ⟨gb277, 0, none⟩ = some (.int .i64 t272) := (blk_cell BK277.out 0).trans rfl; have hcz91_1 : w87.cell? ⟨gb277, 1, none⟩ = some (.string t273) := (blk_cell BK277.out 1).trans rfl; have hcz91_2 : w87.cell? ⟨gb277, 2, none⟩ = some (.int .i64 t274) := (blk_cell BK277.out 2).trans rfl; have hfz91_0 := blk_frozen BK277.out 0; have hfz91_1 := blk_frozen BK277.out 1; have hfz91_2 := blk_frozen BK277.out 2; have hcz92_0 : w87.cell? ⟨gb269, 0, none⟩ = some (.slice A0_0 l0_0.length c0_0) := (blk_cell BK269.out 0).trans rfl; have hcz92_1 : w87.cell? ⟨gb269, 1, none⟩ = some (.int .i64 a0_1) := (blk_cell BK269.out 1).trans rfl; have hcz92_2 : w87.cell? ⟨gb269, 2, none⟩ = some (.int .i64 a0_2) := (blk_cell BK269.out 2).trans rfl; have hcz92_3 : w87.cell? ⟨gb269, 3, none⟩ = some (.string a0_3) := (blk_cell BK269.out 3).trans rfl; have hcz92_4 : w87.cell? ⟨gb269, 4, none⟩ = some (.int .i64 a0_4) := (blk_cell BK269.out 4).trans rfl; have hfz92_0 := blk_frozen BK269.out 0; have hfz92_1 := blk_frozen BK269.out 1; have hfz92_2 := blk_frozen BK269.out 2; have hfz92_3 := blk_frozen BK269.out 3; have hfz92_4 := blk_frozen BK269.out 4) | (go_at_call 13; (with_reducible refine (emulatorlaw26_alive.calls  t318 _ A69.out).mono ?_); rintro e w93 ⟨rfl, hb⟩; have n0_ := Aside0.mk (Kd.R_below (by (with_reducible repeat (first | apply Kd.R_alloc | apply Kd.R_drewN | apply Kd.R_drew)); exact (Kd.R_mono (Kd.R_far (p := ⟨gb316, 2, none⟩) (Kd.R_far (p := ⟨gb316, 1, none⟩) (Kd.R_far (p := ⟨gb316, 0, none⟩) (Kd.R_types HO307.out BK316.out (by decide)) (fun _ hk => hk.2) (.int .i64 t311)) (fun _ hk => hk.2) (.string t312)) (fun _ hk => hk.2) (.int .i64 t313)) (fun _ h_ => h_.1))) hb); have n1_ := Aside0.mk (Kd.R_below (by (with_reducible repeat (first | apply Kd.R_alloc | apply Kd.R_drewN | apply Kd.R_drew)); exact (Kd.R_mono (Kd.R_far (p := ⟨gb316, 2, none⟩) (Kd.R_far (p := ⟨gb316, 1, none⟩) (Kd.R_far (p := ⟨gb316, 0, none⟩) (Kd.R_types HO310.out BK316.out (by decide)) (fun _ hk => hk.2) (.int .i64 t311)) (fun _ hk => hk.2) (.string t312)) (fun _ hk => hk.2) (.int .i64 t313)) (fun _ h_ => h_.1))) hb); have n2_ := Aside0.mk (blk_below (g := gb269) (o := .cells #[.slice A0_0 l0_0.length c0_0, .int .i64 a0_1, .int .i64 a0_2, .string a0_3, .int .i64 a0_4] 26 (0, 0)) (by (with_reducible repeat (first | refine blk_drewN ?_ _ | refine blk_drew ?_ | refine blk_alloc ?_ _)); refine blk_far ?_ NB269_316.out _; (with_reducible repeat (first | refine blk_drewN ?_ _ | refine blk_drew ?_ | refine blk_alloc ?_ _)); refine blk_far ?_ NB269_316.out _; (with_reducible repeat (first | refine blk_drewN ?_ _ | refine blk_drew ?_ | refine blk_alloc ?_ _)); refine blk_far ?_ NB269_316.out _; (with_reducible repeat (first | refine blk_drewN ?_ _ | refine blk_drew ?_ | refine blk_alloc ?_ _)); exact BK269.out) hb); have n3_ := Aside0.mk (blk_below (g := gb277) (o := .cells #[.int .i64 t272, .string t273, .int .i64 t274] 24 (0, 0)) (by (with_reducible repeat (first | refine blk_drewN ?_ _ | refine blk_drew ?_ | refine blk_alloc ?_ _)); refine blk_far ?_ NB277_316.out _; (with_reducible repeat (first | refine blk_drewN ?_ _ | refine blk_drew ?_ | refine blk_alloc ?_ _)); refine blk_far ?_ NB277_316.out _; (with_reducible repeat (first | refine blk_drewN ?_ _ | refine blk_drew ?_ | refine blk_alloc ?_ _)); refine blk_far ?_ NB277_316.out _; (with_reducible repeat (first | refine blk_drewN ?_ _ | refine blk_drew ?_ | refine blk_alloc ?_ _)); exact BK277.out) hb); have n4_ := Aside0.mk (blk_below (g := gb316) (o := .cells #[.int .i64 t311, .string t312, .int .i64 t313] 24 (0, 0)) (by (with_reducible repeat (first | refine blk_drewN ?_ _ | refine blk_drew ?_ | refine blk_alloc ?_ _)); refine blk_put (cs := #[.int .i64 t311, .string t312, .int .i64 0]) ?_ 2 _ rfl; (with_reducible repeat (first | refine blk_drewN ?_ _ | refine blk_drew ?_ | refine blk_alloc ?_ _)); refine blk_put (cs := #[.int .i64 t311, .string (⟨#[]⟩ : ByteArray), .int .i64 0]) ?_ 1 _ rfl; (with_reducible repeat (first | refine blk_drewN ?_ _ | refine blk_drew ?_ | refine blk_alloc ?_ _)); refine blk_put (cs := #[.int .i64 0, .string (⟨#[]⟩ : ByteArray), .int .i64 0]) ?_ 0 _ rfl; (with_reducible repeat (first | refine blk_drewN ?_ _ | refine blk_drew ?_ | refine blk_alloc ?_ _)); exact BK316.out) hb); have n5_ := Aside0.mk (below_step (by repeat (first | (with_reducible first | exact HB.out | apply below_alloc | apply pw_below_drewN | apply below_drew1 | refine below_set ?_ GE269.out | refine below_set ?_ GE277.out | refine below_set ?_ GE316.out) | exact HB.out)) hb); clear HO307; clear HO310; clear BK269; clear BK277; clear BK316; clear HB; have HO307 := n0_; have HO310 := n1_; have BK269 := n2_; have BK277 := n3_; have BK316 := n4_; have HB := n5_; clear n0_ n1_ n2_ n3_ n4_ n5_; (try clear hb); (try clear hb2); (try clear hk); (try clear hi)))
                                  go_ret
                                  exact ⟨by first | rfl | (simp [errW_none, errW_some] <;> rfl) | (simp [*, errW_none, errW_some] <;> rfl), by repeat (first | (with_reducible first | exact HB.out | apply below_alloc | apply pw_below_drewN | apply below_drew1 | refine below_set ?_ GE269.out | refine below_set ?_ GE277.out | refine below_set ?_ GE316.out) | exact HB.out)⟩
                                · rw [if_neg c68] at H
                                  exact absurd (H.trans (congrArg some hr_.out)) (by decide)
                              · rw [if_neg c67] at H
                                exact absurd (H.trans (congrArg some hr_.out)) (by decide)
                            · rw [if_neg c66] at H
                              exact absurd (H.trans (congrArg some hr_.out)) (by decide)
                        · rw [if_neg c40] at H
                          exact absurd H (by simp)
                      · rw [if_neg c36] at H
                        exact absurd H (by simp)
                    · rw [if_neg c35] at H
                      exact absurd H (by simp)
                  · rw [if_neg c34] at H
                    exact absurd H (by simp)
                · rw [if_neg c33] at H
                  exact absurd H (by simp)
        · rw [if_neg c16] at H
          have c16b0 : (t276 == 0) = false := beq_eq_false_iff_ne.mpr c16
          have c16b1 : (t276 != 0) = true := bne_iff_ne.mpr c16
          by_cases c160 : t275 = 0
          · rw [if_pos c160] at H
            have c160b0 : (t275 == 0) = true := beq_iff_eq.mpr c160
            have c160b1 : (t275 != 0) = false := bne_eq_false_iff_eq.mpr c160
            clear c160
            by_cases c161 : (t272 == 0 && (t273.toList == ([] : List UInt8) && (t274 == 0))) = true
            · rw [if_pos c161] at H
              have c161b0 : (t272 == 0 && (t273.toList == ([] : List UInt8) && (t274 == 0))) = true := c161
              (try (have c161b1 : decide (t272 = 0 && (t273.toList == ([] : List UInt8) && (t274 == 0))) = true := by simpa using c161))
              (try (have c161b2 : (t272 == 0 && (t273.toList == ([] : List UInt8) && (t274 == 0))) = true := by simpa using c161))
              clear c161
              obtain ⟨hz2, hz1, hz3⟩ : t272 = 0 ∧ t273.toList = [] ∧ t274 = 0 := by simpa using c161b0
              subst hz2 hz3
              obtain rfl : t273 = (⟨#[]⟩ : ByteArray) := by rw [ByteArray.toList_eq] at hz1; cases t273; simp_all
              clear hz1
              (try clear c161b0)
              (try clear c161b1)
              (try clear c161b2)
              replace H := Option.bind_eq_some_iff.mp H
              obtain ⟨t278, A1620, H⟩ := H
              replace H : (some t278) = some r := H
              have A162 := Aside0.mk A1620
              clear A1620
              obtain rfl := Option.some.inj H
              have hcz163_0 : wc.cell? ⟨gb269, 0, none⟩ = some (.slice A0_0 l0_0.length c0_0) := (blk_cell BK269.out 0).trans rfl
              have hcz163_1 : wc.cell? ⟨gb269, 1, none⟩ = some (.int .i64 a0_1) := (blk_cell BK269.out 1).trans rfl
              have hcz163_2 : wc.cell? ⟨gb269, 2, none⟩ = some (.int .i64 a0_2) := (blk_cell BK269.out 2).trans rfl
              have hcz163_3 : wc.cell? ⟨gb269, 3, none⟩ = some (.string a0_3) := (blk_cell BK269.out 3).trans rfl
              have hcz163_4 : wc.cell? ⟨gb269, 4, none⟩ = some (.int .i64 a0_4) := (blk_cell BK269.out 4).trans rfl
              have hfz163_0 := blk_frozen BK269.out 0
              have hfz163_1 := blk_frozen BK269.out 1
              have hfz163_2 := blk_frozen BK269.out 2
              have hfz163_3 := blk_frozen BK269.out 3
              have hfz163_4 := blk_frozen BK269.out 4
              go_wp2_with (first | ((with_reducible refine gate_callee (f := 11) rfl ?_); refine goesL_ (some 40) rfl rfl Try.func11 (by kernel_rfl) rfl #[.slice A0_0 l0_0.length c0_0, .int .i64 a0_1, .slice A1 l1.length c1, .agg #[.int .i64 a0_2, .string a0_3, .int .i64 a0_4]] rfl (by (try simp only [List.map_toArray, List.map_cons, List.map_nil]); first | done | rfl | (simp only [List.length_drop, List.length_take]; rfl)) ?_; (with_reducible refine (asmexpr_Eval.calls _ _ l0_0 a0_1 _ _ l1 a0_2 a0_3 a0_4 (0 : Int) (⟨#[]⟩ : ByteArray) (0 : Int) t275 t276 _ ?side1 ?side2 ?side3 ?side4 A15.out).mono ?_); (case side1 => repeat (first | exact (Kd.C_below HR0_0.out HB.out) | (with_reducible refine Kd.C_alloc ?_ _) | (with_reducible refine Kd.C_drewN ?_ _) | (with_reducible refine Kd.C_drew ?_))); (case side2 => exact HC0_0.out); (case side3 => repeat (first | exact (Kd.C_below HR1.out HB.out) | (with_reducible refine Kd.C_alloc ?_ _) | (with_reducible refine Kd.C_drewN ?_ _) | (with_reducible refine Kd.C_drew ?_))); (case side4 => exact HC1.out); rintro e w164 ⟨rfl, hb⟩; refine ⟨_, rfl, ?_⟩; have n0_ := Aside0.mk (blk_below (g := gb269) (o := .cells #[.slice A0_0 l0_0.length c0_0, .int .i64 a0_1, .int .i64 a0_2, .string a0_3, .int .i64 a0_4] 26 (0, 0)) (by (with_reducible repeat (first | refine blk_drewN ?_ _ | refine blk_drew ?_ | refine blk_alloc ?_ _)); exact BK269.out) hb); have n1_ := Aside0.mk (below_step (by repeat (first | (with_reducible first | exact HB.out | apply below_alloc | apply pw_below_drewN | apply below_drew1 | refine below_set ?_ GE269.out) | exact HB.out)) hb); clear BK269; clear HB; have BK269 := n0_; have HB := n1_; clear n0_ n1_; (try clear hb); (try clear hb2); (try clear hk); (try clear hi)) | ((with_reducible refine gate_dst (N := 5) rfl ?_); (try (refine gate_guard (by rfl) ?_; dsimp only)); refine box_event ?hg (N := 5) ?hd (cs := #[.int .i64 0, .string (⟨#[]⟩ : ByteArray), .int .i64 0]) (t := 24) ?hr ?_; (case hd => rfl); (case hg => rfl); (case hr => first | (go_simp; done) | (go_simp; rfl)); intro gb277 hg w165 hbox hb; have n0_ := Aside0.mk (blk_below (g := gb269) (o := .cells #[.slice A0_0 l0_0.length c0_0, .int .i64 a0_1, .int .i64 a0_2, .string a0_3, .int .i64 a0_4] 26 (0, 0)) (by (with_reducible repeat (first | refine blk_drewN ?_ _ | refine blk_drew ?_ | refine blk_alloc ?_ _)); exact BK269.out) hb); have n1_ := Aside0.mk (below_step (by repeat (first | (with_reducible first | exact HB.out | apply below_alloc | apply pw_below_drewN | apply below_drew1 | refine below_set ?_ GE269.out) | exact HB.out)) hb); have n2_ := Aside0.mk (hbox); have n3_ := Aside0.mk ((by rw [hg]; exact (below_size (by repeat (first | (with_reducible first | exact HB.out | apply below_alloc | apply pw_below_drewN | apply below_drew1 | refine below_set ?_ GE269.out) | exact HB.out))) : w.heap.size ≤ gb277)); have n4_ := Aside0.mk ((by rw [hg]; exact (below_size (by repeat (first | (with_reducible first | exact HB.out | apply below_alloc | apply pw_below_drewN | apply below_drew1 | refine below_set ?_ GE269.out) | exact HB.out))) : w.heap.size ≤ gb277)); have n5_ := Aside0.mk ((by rw [hg]; exact Nat.ne_of_lt (blk_lt (g := gb269) (o := .cells #[.slice A0_0 l0_0.length c0_0, .int .i64 a0_1, .int .i64 a0_2, .string a0_3, .int .i64 a0_4] 26 (0, 0)) (by (with_reducible repeat (first | refine blk_drewN ?_ _ | refine blk_drew ?_ | refine blk_alloc ?_ _)); exact BK269.out)) : gb269 ≠ gb277)); have n6_ := Aside0.mk ((by rw [hg]; exact Nat.ne_of_gt (blk_lt (g := gb269) (o := .cells #[.slice A0_0 l0_0.length c0_0, .int .i64 a0_1, .int .i64 a0_2, .string a0_3, .int .i64 a0_4] 26 (0, 0)) (by (with_reducible repeat (first | refine blk_drewN ?_ _ | refine blk_drew ?_ | refine blk_alloc ?_ _)); exact BK269.out)) : gb277 ≠ gb269)); clear BK269; clear HB; have BK269 := n0_; have HB := n1_; have BK277 := n2_; have GW277 := n3_; have GE277 := n4_; have NB269_277 := n5_; have NB277_269 := n6_; clear n0_ n1_ n2_ n3_ n4_ n5_ n6_; clear hb hbox hg; have hnb166 := NB277_269.out; have hnc166 := NB269_277.out; have hcz167_0 : w165.cell? ⟨gb277, 0, none⟩ = some (.int .i64 0) := (blk_cell BK277.out 0).trans rfl; have hcz167_1 : w165.cell? ⟨gb277, 1, none⟩ = some (.string (⟨#[]⟩ : ByteArray)) := (blk_cell BK277.out 1).trans rfl; have hcz167_2 : w165.cell? ⟨gb277, 2, none⟩ = some (.int .i64 0) := (blk_cell BK277.out 2).trans rfl; have hfz167_0 := blk_frozen BK277.out 0; have hfz167_1 := blk_frozen BK277.out 1; have hfz167_2 := blk_frozen BK277.out 2) | (go_at_call 13; (with_reducible refine (emulatorlaw26_alive.calls  t278 _ A162.out).mono ?_); rintro e w168 ⟨rfl, hb⟩; have n0_ := Aside0.mk (blk_below (g := gb269) (o := .cells #[.slice A0_0 l0_0.length c0_0, .int .i64 a0_1, .int .i64 a0_2, .string a0_3, .int .i64 a0_4] 26 (0, 0)) (by (with_reducible repeat (first | refine blk_drewN ?_ _ | refine blk_drew ?_ | refine blk_alloc ?_ _)); refine blk_far ?_ NB269_277.out _; (with_reducible repeat (first | refine blk_drewN ?_ _ | refine blk_drew ?_ | refine blk_alloc ?_ _)); refine blk_far ?_ NB269_277.out _; (with_reducible repeat (first | refine blk_drewN ?_ _ | refine blk_drew ?_ | refine blk_alloc ?_ _)); refine blk_far ?_ NB269_277.out _; (with_reducible repeat (first | refine blk_drewN ?_ _ | refine blk_drew ?_ | refine blk_alloc ?_ _)); exact BK269.out) hb); have n1_ := Aside0.mk (blk_below (g := gb277) (o := .cells #[.int .i64 (0 : Int), .string (⟨#[]⟩ : ByteArray), .int .i64 (0 : Int)] 24 (0, 0)) (by (with_reducible repeat (first | refine blk_drewN ?_ _ | refine blk_drew ?_ | refine blk_alloc ?_ _)); refine blk_put (cs := #[.int .i64 (0 : Int), .string (⟨#[]⟩ : ByteArray), .int .i64 0]) ?_ 2 _ rfl; (with_reducible repeat (first | refine blk_drewN ?_ _ | refine blk_drew ?_ | refine blk_alloc ?_ _)); refine blk_put (cs := #[.int .i64 (0 : Int), .string (⟨#[]⟩ : ByteArray), .int .i64 0]) ?_ 1 _ rfl; (with_reducible repeat (first | refine blk_drewN ?_ _ | refine blk_drew ?_ | refine blk_alloc ?_ _)); refine blk_put (cs := #[.int .i64 0, .string (⟨#[]⟩ : ByteArray), .int .i64 0]) ?_ 0 _ rfl; (with_reducible repeat (first | refine blk_drewN ?_ _ | refine blk_drew ?_ | refine blk_alloc ?_ _)); exact BK277.out) hb); have n2_ := Aside0.mk (below_step (by repeat (first | (with_reducible first | exact HB.out | apply below_alloc | apply pw_below_drewN | apply below_drew1 | refine below_set ?_ GE269.out | refine below_set ?_ GE277.out) | exact HB.out)) hb); clear BK269; clear BK277; clear HB; have BK269 := n0_; have BK277 := n1_; have HB := n2_; clear n0_ n1_ n2_; (try clear hb); (try clear hb2); (try clear hk); (try clear hi)))
              go_ret
              exact ⟨by first | rfl | (simp [errW_none, errW_some] <;> rfl) | (simp [*, errW_none, errW_some] <;> rfl), by repeat (first | (with_reducible first | exact HB.out | apply below_alloc | apply pw_below_drewN | apply below_drew1 | refine below_set ?_ GE269.out | refine below_set ?_ GE277.out) | exact HB.out)⟩
            · rw [if_neg c161] at H
              exact absurd (H.trans (congrArg some hr_.out)) (by decide)
          · rw [if_neg c160] at H
            exact absurd (H.trans (congrArg some hr_.out)) (by decide)
end Go.Proofs.Ytpinoobgnnlccaa.A

/- An expression between brackets: read one deeper it says the same, or that it is too deep. -/
namespace Go.Proofs.Ytpinoobgnnlccaa.A
open Go Go.RowKit Go.Proofs.YtpinoobgnnlccaaW.PrintWords
set_option linter.unusedSimpArgs false
set_option linter.unusedVariables false
theorem loop_end (L : List S38) (tm : Nat → RR) (ht : TOK L tm) : ∀ n v i, vS v = true → i ≤ L.length → L.length ≤ i + n → (loopS L tm n v i).2.2 = 0 → isOp (symS L (loopS L tm n v i).2.1) = false := by
  intro n
  induction n with
  | zero =>
    intro v i hv hi hn _
    unfold loopS
    cases c : isOp (symS L i)
    · rfl
    · obtain ⟨o1, _, _⟩ := op_at c; omega
  | succ n ih =>
    intro v i hv hi hn h0
    unfold loopS at h0 ⊢
    by_cases c : isOp (symS L i) = true
    · rw [if_pos c] at h0 ⊢
      obtain ⟨o1, _, _⟩ := op_at c
      by_cases c2 : (tm (i + 1)).2.2 = 0
      · rw [if_pos c2] at h0 ⊢
        obtain ⟨t1, t2, t3⟩ := ht (i + 1) (by omega) c2
        by_cases c3 : (opS (symS L i) v (tm (i + 1)).1).2 = 0
        · rw [if_pos c3] at h0 ⊢
          exact ih _ _ (op_valid hv t1 c3) t3 (by omega) h0
        · rw [if_neg c3] at h0; exact absurd h0 c3
      · rw [if_neg c2] at h0; exact absurd h0 c2
    · rw [if_neg c]; simpa using c
section
variable {L L' : List S38} {S : List S44} {h : VV} {a j : Nat}
/-- the result of the shifted text: too deep, or the same -/
def Sim (a : Nat) (r r' : RR) : Prop := r'.2.2 = 7 ∨ (r'.1 = r.1 ∧ r'.2.1 = r.2.1 - a + 1 ∧ r'.2.2 = 0)
def Shift (L L' : List S38) (a j : Nat) : Prop := j ≤ L.length ∧ ∀ p, a ≤ p → p < j → p - a + 1 < L'.length ∧ rd_T38 L' ((p - a + 1 : Nat) : Int) = rd_T38 L (p : Int)
theorem shift_sym (hs : Shift L L' a j) {p : Nat} (h1 : a ≤ p) (h2 : p < j) : symS L' (p - a + 1) = symS L p := by
  obtain ⟨s1, s2⟩ := hs
  obtain ⟨s3, s4⟩ := s2 p h1 h2
  unfold symS
  rw [s4]
  by_cases c : (rd_T38 L (p : Int)).f0 = 4
  · rw [if_pos ⟨s3, c⟩, if_pos ⟨by omega, c⟩]
  · rw [if_neg (fun g => c g.2), if_neg (fun g => c g.2)]
def SimT (L : List S38) (a j : Nat) (tm tm' : Nat → RR) : Prop := ∀ p, a ≤ p → p ≤ j → (tm p).2.2 = 0 → (tm p).2.1 ≤ j → Sim a (tm p) (tm' (p - a + 1))
theorem loop_sim (hs : Shift L L' a j) {tm tm' : Nat → RR} (ht : TOK L tm) (hT : SimT L a j tm tm') : ∀ n n' v p, vS v = true → a ≤ p → p ≤ j → (loopS L tm n v p).2.2 = 0 → (loopS L tm n v p).2.1 ≤ j → isOp (symS L' ((loopS L tm n v p).2.1 - a + 1)) = false → j - p < n' → Sim a (loopS L tm n v p) (loopS L' tm' n' v (p - a + 1)) := by
  have hjL := hs.1
  have hend : ∀ n' v p, 0 < n' → isOp (symS L' (p - a + 1)) = false → Sim a (v, p, 0) (loopS L' tm' n' v (p - a + 1)) := by
    intro n' v p hn hE
    obtain ⟨m, rfl⟩ : ∃ m, n' = m + 1 := ⟨n' - 1, by omega⟩
    unfold loopS
    rw [hE, if_neg (by decide)]
    exact .inr ⟨rfl, rfl, rfl⟩
  intro n
  induction n with
  | zero => intro n' v p hv h1 h2 h0 hq hE hn; exact hend n' v p (by omega) hE
  | succ n ih =>
    intro n' v p hv h1 h2 h0 hq hE hn
    unfold loopS at h0 hq hE
    rw [show loopS L tm (n + 1) v p = _ from by rw [loopS]]
    by_cases c : isOp (symS L p) = true
    · rw [if_pos c] at h0 hq hE ⊢
      obtain ⟨o1, _, _⟩ := op_at c
      by_cases c2 : (tm (p + 1)).2.2 = 0
      · rw [if_pos c2] at h0 hq hE ⊢
        obtain ⟨t1, t2, t3⟩ := ht (p + 1) (by omega) c2
        by_cases c3 : (opS (symS L p) v (tm (p + 1)).1).2 = 0
        · rw [if_pos c3] at h0 hq hE ⊢
          have hv2 := op_valid hv t1 c3
          obtain ⟨_, l2, _⟩ := loop_ok ht _ _ _ hv2 t3 h0
          have hsy := shift_sym hs h1 (show p < j by omega)
          obtain ⟨m, rfl⟩ : ∃ m, n' = m + 1 := ⟨n' - 1, by omega⟩
          rw [show loopS L' tm' (m + 1) v (p - a + 1) = _ from by rw [loopS]]
          rw [hsy, if_pos c]
          have hp : p - a + 1 + 1 = (p + 1) - a + 1 := by omega
          rw [hp]
          rcases hT (p + 1) (by omega) (by omega) c2 (by omega) with g | ⟨g1, g2, g3⟩
          · rw [if_neg (by rw [g]; omega), g]; exact .inl rfl
          · rw [if_pos g3, g1, if_pos c3, g2]
            exact ih m _ _ hv2 (by omega) (by omega) h0 hq hE (by omega)
        · rw [if_neg c3] at h0; exact absurd h0 c3
      · rw [if_neg c2] at h0; exact absurd h0 c2
    · rw [if_neg c] at h0 hq hE ⊢
      exact hend n' v p (by omega) hE
theorem expr_sim (hs : Shift L L' a j) (hl : j - a < L'.length) {tm tm' : Nat → RR} (ht : TOK L tm) (hT : SimT L a j tm tm') {p : Nat} (h1 : a ≤ p) (h2 : p ≤ j) (h0 : (exprS L tm p).2.2 = 0) (hq : (exprS L tm p).2.1 ≤ j) (hE : isOp (symS L' ((exprS L tm p).2.1 - a + 1)) = false) : Sim a (exprS L tm p) (exprS L' tm' (p - a + 1)) := by
  have hjL := hs.1
  unfold exprS at h0 hq hE ⊢
  by_cases c : (tm p).2.2 = 0
  · rw [if_pos c] at h0 hq hE ⊢
    obtain ⟨t1, t2, t3⟩ := ht p (by omega) c
    obtain ⟨_, l2, _⟩ := loop_ok ht _ _ _ t1 t3 h0
    rcases hT p h1 h2 c (by omega) with g | ⟨g1, g2, g3⟩
    · rw [if_neg (by rw [g]; omega), g]; exact .inl rfl
    · rw [if_pos g3, g1, g2]
      exact loop_sim hs ht hT _ _ _ _ t1 (by omega) (by omega) h0 hq hE (by omega)
  · rw [if_neg c] at h0; exact absurd h0 c
theorem expr_end {tm : Nat → RR} (ht : TOK L tm) {p : Nat} (hp : p ≤ L.length) (h0 : (exprS L tm p).2.2 = 0) : isOp (symS L (exprS L tm p).2.1) = false := by
  unfold exprS at h0 ⊢
  by_cases c : (tm p).2.2 = 0
  · rw [if_pos c] at h0 ⊢
    obtain ⟨t1, t2, t3⟩ := ht p hp c
    exact loop_end L tm ht _ _ _ t1 t3 (by omega) h0
  · rw [if_neg c] at h0; exact absurd h0 c
theorem termS_z (L : List S38) (p : Nat) : termS L S h 0 p = if sIs (symS L p) [45] = true then re 7 else if sIs (symS L p) [40] = true then re 7 else atomS L S h p := rfl
theorem termS_s (L : List S38) (d p : Nat) : termS L S h (d + 1) p = if sIs (symS L p) [45] = true then negS (termS L S h d (p + 1)) else if sIs (symS L p) [40] = true then parS L (exprS L (termS L S h d) (p + 1)) else atomS L S h p := rfl
theorem term_sim (hh : vS h = true) (hs : Shift L L' a j) (hl : j - a < L'.length) : ∀ d, SimT L a j (termS L S h (d + 1)) (termS L' S h d) := by
  have hjL := hs.1
  intro d
  induction d with
  | zero =>
    intro p h1 h2 h0 hq
    obtain ⟨_, t2, _⟩ := term_ok (L := L) (S := S) hh (0 + 1) p (by omega) h0
    have hpj : p < j := by omega
    have hsy := shift_sym hs h1 hpj
    obtain ⟨s1, s2⟩ := hs.2 p h1 (by omega)
    have e' : termS L' S h 0 (p - a + 1) = if sIs (symS L p) [45] = true then re 7 else if sIs (symS L p) [40] = true then re 7 else atomS L' S h (p - a + 1) := by rw [termS_z, hsy]
    have e : termS L S h (0 + 1) p = if sIs (symS L p) [45] = true then negS (termS L S h 0 (p + 1)) else if sIs (symS L p) [40] = true then parS L (exprS L (termS L S h 0) (p + 1)) else atomS L S h p := termS_s _ _ _
    rw [e']
    rw [e] at h0 hq ⊢
    by_cases c1 : sIs (symS L p) [45] = true
    · rw [if_pos c1, if_pos c1]; exact .inl rfl
    · by_cases c2 : sIs (symS L p) [40] = true
      · rw [if_neg c1, if_pos c2, if_neg c1, if_pos c2]; exact .inl rfl
      · rw [if_neg c1, if_neg c2] at h0 hq ⊢
        rw [if_neg c1, if_neg c2]
        unfold atomS at h0 ⊢
        rw [if_neg (show ¬ L.length ≤ p by omega)] at h0 ⊢
        rw [if_neg (show ¬ L'.length ≤ p - a + 1 by omega), s2]
        by_cases c3 : (atomT S h (rd_T38 L (p : Int))).2 = 0
        · rw [if_pos c3, if_pos c3]; exact .inr ⟨rfl, by show p - a + 1 + 1 = p + 1 - a + 1; omega, rfl⟩
        · rw [if_neg c3] at h0; cases h0
  | succ d ih =>
    intro p h1 h2 h0 hq
    obtain ⟨_, t2, _⟩ := term_ok (L := L) (S := S) hh (d + 1 + 1) p (by omega) h0
    have hpj : p < j := by omega
    have hsy := shift_sym hs h1 hpj
    obtain ⟨s1, s2⟩ := hs.2 p h1 (by omega)
    have e' : termS L' S h (d + 1) (p - a + 1) = if sIs (symS L p) [45] = true then negS (termS L' S h d (p - a + 1 + 1)) else if sIs (symS L p) [40] = true then parS L' (exprS L' (termS L' S h d) (p - a + 1 + 1)) else atomS L' S h (p - a + 1) := by rw [termS_s, hsy]
    have e : termS L S h (d + 1 + 1) p = if sIs (symS L p) [45] = true then negS (termS L S h (d + 1) (p + 1)) else if sIs (symS L p) [40] = true then parS L (exprS L (termS L S h (d + 1)) (p + 1)) else atomS L S h p := termS_s _ _ _
    have hp : p - a + 1 + 1 = (p + 1) - a + 1 := by omega
    rw [e', hp]
    rw [e] at h0 hq t2 ⊢
    by_cases c1 : sIs (symS L p) [45] = true
    · rw [if_pos c1] at h0 hq t2 ⊢
      rw [if_pos c1]
      unfold negS at h0 hq t2 ⊢
      by_cases c3 : (termS L S h (d + 1) (p + 1)).2.2 = 0
      · rw [if_pos c3] at h0 hq t2 ⊢
        rcases ih (p + 1) (by omega) (by omega) c3 hq with g | ⟨g1, g2, g3⟩
        · rw [if_neg (by rw [g]; omega), g]; exact .inl rfl
        · rw [if_pos g3, g1, g2]; exact .inr ⟨rfl, rfl, h0⟩
      · rw [if_neg c3] at h0; exact absurd h0 c3
    · by_cases c2 : sIs (symS L p) [40] = true
      · rw [if_neg c1, if_pos c2] at h0 hq t2 ⊢
        rw [if_neg c1, if_pos c2]
        unfold parS at h0 hq t2 ⊢
        have ht := term_ok (L := L) (S := S) hh (d + 1)
        by_cases c3 : (exprS L (termS L S h (d + 1)) (p + 1)).2.2 = 0
        · rw [if_pos c3] at h0 hq t2 ⊢
          by_cases c4 : sIs (symS L (exprS L (termS L S h (d + 1)) (p + 1)).2.1) [41] = true
          · rw [if_pos c4] at h0 hq t2 ⊢
            have hq' : (exprS L (termS L S h (d + 1)) (p + 1)).2.1 + 1 ≤ j := hq
            obtain ⟨_, x2, x3⟩ := expr_ok ht (p + 1) (by omega) c3
            have hsq := shift_sym hs (show a ≤ (exprS L (termS L S h (d + 1)) (p + 1)).2.1 by omega) (by omega)
            have hE := expr_end ht (show p + 1 ≤ L.length by omega) c3
            rcases expr_sim hs hl ht ih (show a ≤ p + 1 by omega) (by omega) c3 (by omega) (by rw [hsq]; exact hE) with g | ⟨g1, g2, g3⟩
            · rw [if_neg (by rw [g]; omega), g]; exact .inl rfl
            · rw [if_pos g3, g2, hsq, if_pos c4, g1]
              exact .inr ⟨rfl, by show _ - a + 1 + 1 = _ + 1 - a + 1; omega, rfl⟩
          · rw [if_neg c4] at h0; cases h0
        · rw [if_neg c3] at h0; exact absurd h0 c3
      · rw [if_neg c1, if_neg c2] at h0 hq ⊢
        rw [if_neg c1, if_neg c2]
        unfold atomS at h0 ⊢
        rw [if_neg (show ¬ L.length ≤ p by omega)] at h0 ⊢
        rw [if_neg (show ¬ L'.length ≤ p - a + 1 by omega), s2]
        by_cases c3 : (atomT S h (rd_T38 L (p : Int))).2 = 0
        · rw [if_pos c3, if_pos c3]; exact .inr ⟨rfl, by show p - a + 1 + 1 = p + 1 - a + 1; omega, rfl⟩
        · rw [if_neg c3] at h0; cases h0
end
end Go.Proofs.Ytpinoobgnnlccaa.A

/- AsmexprBrackets: true, whatever the input. -/
namespace Go.Proofs.Ytpinoobgnnlccaa.A
open Go Go.RowKit Go.Proofs.YtpinoobgnnlccaaW.PrintWords
set_option linter.unusedSimpArgs false
set_option linter.unusedVariables false
theorem fits_of' {L : List S38} (h : L.length ≤ 100 ∧ ∀ x ∈ L, x.f1.size ≤ 100) : fits L = true := by
  unfold fits
  simp only [Bool.and_eq_true, decide_eq_true_eq, List.all_eq_true]
  exact ⟨by omega, fun x hx => by have := h.2 x hx; omega⟩
theorem eval_f' (L : List S38) (S : List S44) (h : VV) (a : Int) (hf : fits L = true) (hS : S.length ≤ 1000) (hh : h.2.1.size ≤ 1000) : asmexpr_Eval.f L a S h.1 h.2.1 h.2.2 = outR (evalS L S h a) := by
  unfold asmexpr_Eval.f; rw [if_pos ⟨hf, hS, hh⟩]
def tkO : S38 := ⟨4, ⟨#[40]⟩, 0, 1⟩
def tkC : S38 := ⟨4, ⟨#[41]⟩, 0, 1⟩
def tkK : S38 := ⟨4, ⟨#[44]⟩, 0, 1⟩
def tkN : S38 := ⟨2, ⟨#[]⟩, 1, 1⟩
/-- what stands between i and j, in brackets, with more behind it -/
def wrapL (L : List S38) (i j : Nat) : List S38 := [tkO] ++ ((L.take j).drop i) ++ [tkC, tkK, tkN]
theorem wrap_len (L : List S38) {i j : Nat} (hij : i ≤ j) (hj : j ≤ L.length) : (wrapL L i j).length = j - i + 4 := by
  unfold wrapL; simp [List.length_drop, List.length_take]; omega
theorem rd_at (L : List S38) (p : Nat) : rd_T38 L (p : Int) = (L[p]?).getD z38 := by
  unfold rd_T38; simp [List.getD_eq_getElem?_getD]
theorem wrap_mid (L : List S38) {i j p : Nat} (hj : j ≤ L.length) (h1 : i ≤ p) (h2 : p < j) : rd_T38 (wrapL L i j) ((p - i + 1 : Nat) : Int) = rd_T38 L (p : Int) := by
  rw [rd_at, rd_at]
  have hl : ((L.take j).drop i).length = j - i := by simp [List.length_drop, List.length_take]; omega
  have e : (wrapL L i j)[p - i + 1]? = ((L.take j).drop i)[p - i]? := by
    unfold wrapL
    rw [List.append_assoc, List.getElem?_append_right (by simp), List.getElem?_append_left (by rw [hl]; simp; omega)]
    simp
  rw [e, List.getElem?_drop, List.getElem?_take, if_pos (by omega), show i + (p - i) = p by omega]
theorem wrap_0 (L : List S38) (i j : Nat) : rd_T38 (wrapL L i j) ((0 : Nat) : Int) = tkO := by
  rw [rd_at]; rfl
theorem wrap_e (L : List S38) {i j : Nat} (hij : i ≤ j) (hj : j ≤ L.length) (m : Nat) : rd_T38 (wrapL L i j) ((j - i + 1 + m : Nat) : Int) = ([tkC, tkK, tkN][m]?).getD z38 := by
  rw [rd_at]
  have hl : ((L.take j).drop i).length = j - i := by simp [List.length_drop, List.length_take]; omega
  have e : (wrapL L i j)[j - i + 1 + m]? = [tkC, tkK, tkN][m]? := by
    unfold wrapL
    rw [List.getElem?_append_right (by simp [hl])]
    congr 1
    simp [hl]
  rw [e]
theorem sIs_one (c : UInt8) (l : List UInt8) : sIs (⟨#[c]⟩ : ByteArray) l = ([c] == l) := by
  unfold sIs; rw [ByteArray.toList_eq]
/-- the law, of the plain function: too deep, or the same value, three tokens on -/
theorem brackets (L : List S38) (S : List S44) (h : VV) (x : Int) (h0 : (evalS L S h x).2.2 = 0) :
    0 ≤ x ∧ x ≤ ((evalS L S h x).2.1 : Int) ∧ (evalS L S h x).2.1 ≤ L.length ∧
    ((evalS (wrapL L x.toNat (evalS L S h x).2.1) S h 0).2.2 = 7 ∨ evalS (wrapL L x.toNat (evalS L S h x).2.1) S h 0 = ((evalS L S h x).1, (evalS L S h x).2.1 - x.toNat + 2, 0)) := by
  unfold evalS at h0
  by_cases c : x < 0 ∨ (L.length : Int) < x ∨ validS h.1 h.2.1 h.2.2 = false
  · rw [if_pos c] at h0; cases h0
  · have hv : vS h = true := by
      cases g : vS h
      · exact absurd (Or.inr (Or.inr g)) c
      · rfl
    have g1 : ¬ x < 0 := fun g => c (.inl g)
    have g2 : ¬ (L.length : Int) < x := fun g => c (.inr (.inl g))
    have eE : evalS L S h x = exprS L (termS L S h 16) x.toNat := by unfold evalS; rw [if_neg c]
    rw [if_neg c] at h0
    rw [eE]
    have ht := term_ok (L := L) (S := S) hv 16
    obtain ⟨x1, x2, x3⟩ := expr_ok ht x.toNat (by omega) h0
    generalize hr : exprS L (termS L S h 16) x.toNat = r at h0 x1 x2 x3 ⊢
    refine ⟨by omega, by omega, x3, ?_⟩
    have hlen := wrap_len L (show x.toNat ≤ r.2.1 by omega) x3
    have hc' : ¬ ((0 : Int) < 0 ∨ ((wrapL L x.toNat r.2.1).length : Int) < 0 ∨ validS h.1 h.2.1 h.2.2 = false) := by
      rintro (g | g | g)
      · omega
      · omega
      · exact c (.inr (.inr g))
    have eE' : evalS (wrapL L x.toNat r.2.1) S h 0 = exprS (wrapL L x.toNat r.2.1) (termS (wrapL L x.toNat r.2.1) S h 16) 0 := by unfold evalS; rw [if_neg hc']; rfl
    rw [eE']
    have hs : Shift L (wrapL L x.toNat r.2.1) x.toNat r.2.1 := ⟨x3, fun p p1 p2 => ⟨by rw [hlen]; omega, wrap_mid L x3 p1 p2⟩⟩
    have w0 := wrap_0 L x.toNat r.2.1
    have wC := wrap_e L (show x.toNat ≤ r.2.1 by omega) x3 0
    have wK := wrap_e L (show x.toNat ≤ r.2.1 by omega) x3 1
    generalize wrapL L x.toNat r.2.1 = W at hlen hs w0 wC wK ⊢
    have y0 : symS W 0 = ⟨#[40]⟩ := by unfold symS; rw [w0, if_pos ⟨by omega, rfl⟩]; rfl
    have yC : symS W (r.2.1 - x.toNat + 1) = ⟨#[41]⟩ := by
      unfold symS
      rw [show rd_T38 W ((r.2.1 - x.toNat + 1 : Nat) : Int) = tkC from wC, if_pos ⟨by omega, rfl⟩]; rfl
    have yK : symS W (r.2.1 - x.toNat + 2) = ⟨#[44]⟩ := by
      unfold symS
      rw [show rd_T38 W ((r.2.1 - x.toNat + 2 : Nat) : Int) = tkK from wK, if_pos ⟨by omega, rfl⟩]; rfl
    have hsim := term_sim (S := S) (h := h) hv hs (by omega) 15
    have hE : isOp (symS W (r.2.1 - x.toNat + 1)) = false := by rw [yC]; unfold isOp; simp only [sIs_one]; decide
    have hE2 : isOp (symS W (r.2.1 - x.toNat + 2)) = false := by rw [yK]; unfold isOp; simp only [sIs_one]; decide
    have hx := expr_sim hs (by omega) ht hsim (show x.toNat ≤ x.toNat from Nat.le_refl _) (by omega) (by rw [hr]; exact h0) (by rw [hr]; exact Nat.le_refl _) (by rw [hr]; exact hE)
    rw [hr, show x.toNat - x.toNat + 1 = 0 + 1 by omega] at hx
    have eT : termS W S h 16 0 = parS W (exprS W (termS W S h 15) (0 + 1)) := by
      rw [show (16 : Nat) = 15 + 1 from rfl, termS_s, y0, sIs_one, sIs_one, if_neg (by decide), if_pos (by decide)]
    have eX : exprS W (termS W S h 16) 0 = if (parS W (exprS W (termS W S h 15) (0 + 1))).2.2 = 0 then loopS W (termS W S h 16) W.length (parS W (exprS W (termS W S h 15) (0 + 1))).1 (parS W (exprS W (termS W S h 15) (0 + 1))).2.1 else re (parS W (exprS W (termS W S h 15) (0 + 1))).2.2 := by
      unfold exprS; rw [eT]; rfl
    rw [eX]
    rcases hx with g | ⟨g1, g2, g3⟩
    · have e7 : parS W (exprS W (termS W S h 15) (0 + 1)) = re 7 := by unfold parS; rw [if_neg (by rw [g]; omega), g]
      rw [e7]; exact .inl rfl
    · have eP : parS W (exprS W (termS W S h 15) (0 + 1)) = (r.1, r.2.1 - x.toNat + 2, 0) := by
        unfold parS; rw [if_pos g3, g2, yC, sIs_one, if_pos (by decide), g1]
      rw [eP]
      refine .inr ?_
      rw [if_pos rfl]
      show loopS W (termS W S h 16) W.length r.1 (r.2.1 - x.toNat + 2) = _
      rw [show W.length = (r.2.1 - x.toNat + 3) + 1 by omega, loopS, hE2, if_neg (by decide)]
theorem brackets_true (L : List S38) (a : Int) (h : VV) (S : List S44) : emulatorlaw26_AsmexprBrackets.f 2000 L a h.1 h.2.1 h.2.2 S = some true := by
  obtain ⟨g, g1, g2⟩ := great_t L 1700
  obtain ⟨q, q1, q2⟩ := great_s S 1700
  have hj : ∀ b, (b = false → (L.length ≤ 60 ∧ ∀ x ∈ L, x.f1.size ≤ 100) ∧ S.length ≤ 1000 ∧ h.2.1.size ≤ 1000) → emulatorlaw26_AsmexprBrackets.j0 2000 S b L a h.1 h.2.1 h.2.2 = some true := by
    intro b hb
    show emulatorlaw26_AsmexprBrackets.j0 ((1998 + 1) + 1) S b L a h.1 h.2.1 h.2.2 = some true
    rw [emulatorlaw26_AsmexprBrackets.j0]
    cases b with
    | true => rw [if_pos rfl]
    | false =>
      obtain ⟨⟨h1, h1'⟩, h2, h3⟩ := hb rfl
      have hf : fits L = true := fits_of' ⟨by omega, h1'⟩
      rw [if_neg (by decide), eval_f' L S h a hf h2 h3]
      by_cases c : (evalS L S h a).2.2 = 0
      · obtain ⟨b1, b2, b3, b4⟩ := brackets L S h a c
        have hf' : fits (wrapL L a.toNat (evalS L S h a).2.1) = true := by
          refine fits_of' ⟨by rw [wrap_len L (by omega) b3]; omega, fun x hx => ?_⟩
          unfold wrapL at hx
          rcases List.mem_append.mp hx with hx | hx
          · rcases List.mem_append.mp hx with hx | hx
            · simp only [List.mem_singleton] at hx; subst hx; decide
            · exact h1' x (List.mem_of_mem_take (List.mem_of_mem_drop hx))
          · simp only [List.mem_cons, List.not_mem_nil, or_false] at hx
            rcases hx with rfl | rfl | rfl <;> decide
        have hE := eval_f' (wrapL L a.toNat (evalS L S h a).2.1) S h 0 hf' h2 h3
        have hl : (([(⟨4, (⟨#[40]⟩ : ByteArray), 0, 1⟩ : S38)] : List S38).length + ((L.take (evalS L S h a).2.1).drop a.toNat).length) < 3518437208883 := by
          simp [List.length_drop, List.length_take]; omega
        have hl2 : ((([(⟨4, (⟨#[40]⟩ : ByteArray), 0, 1⟩ : S38)] : List S38) ++ ((L.take (evalS L S h a).2.1).drop a.toNat)).length + ([(⟨4, (⟨#[41]⟩ : ByteArray), 0, 1⟩ : S38), (⟨4, (⟨#[44]⟩ : ByteArray), 0, 1⟩ : S38), (⟨2, (⟨#[]⟩ : ByteArray), 1, 1⟩ : S38)] : List S38).length) < 3518437208883 := by
          simp [List.length_drop, List.length_take]; omega
        have hw : wrap64 ((wrap64 (((evalS L S h a).2.1 : Int) - a)) + 2) = (((evalS L S h a).2.1 - a.toNat + 2 : Nat) : Int) := by unfold wrap64; omega
        generalize evalS L S h a = r at *
        unfold outR at hE ⊢
        simp only [Option.bind_some]
        rw [if_pos c, if_neg (by omega), if_neg (by omega), show decide ((r.2.1 : Int) > (L.length : Int)) = false from by rw [decide_eq_false_iff_not]; omega]
        rw [emulatorlaw26_AsmexprBrackets.j1, if_neg (by decide)]
        unfold emulatorlaw26_symbol.f emulatorlaw26_number.f
        simp only [Option.bind_some, Int.toNat_natCast]
        rw [if_pos b1, if_pos b2, if_pos (by omega), if_pos hl, if_pos hl2]
        have hE' : asmexpr_Eval.f ((([(⟨4, (⟨#[40]⟩ : ByteArray), 0, 1⟩ : S38)] : List S38) ++ ((L.take r.2.1).drop a.toNat)) ++ ([(⟨4, (⟨#[41]⟩ : ByteArray), 0, 1⟩ : S38), (⟨4, (⟨#[44]⟩ : ByteArray), 0, 1⟩ : S38), (⟨2, (⟨#[]⟩ : ByteArray), 1, 1⟩ : S38)] : List S38)) 0 S h.1 h.2.1 h.2.2 = _ := hE
        rw [hE', Option.bind_some]
        generalize evalS (wrapL L a.toNat r.2.1) S h 0 = t at *
        rcases b4 with b4 | b4
        · rw [if_pos b4]; rfl
        · subst b4
          dsimp only
          rw [if_neg (by omega), if_pos rfl, if_pos (by simp), if_pos hw.symm]; rfl
      · have he : evalS L S h a = re (evalS L S h a).2.2 := by
          unfold evalS at c ⊢
          by_cases d : a < 0 ∨ (L.length : Int) < a ∨ validS h.1 h.2.1 h.2.2 = false
          · rw [if_pos d]; rfl
          · rw [if_neg d] at c ⊢; exact expr_err L _ _ c
        generalize evalS L S h a = r at *
        rw [he]
        unfold outR re v0
        simp only [Option.bind_some]
        rw [if_neg c, if_pos (show ((0 : Nat) : Int) = 0 from rfl), if_pos (by rw [ByteArray.toList_eq]; rfl)]; rfl
  unfold emulatorlaw26_AsmexprBrackets.f
  rw [show (2000 : Nat) = 1700 + 300 from rfl, g1, q1]
  simp only [Option.bind_some]
  show (if g = true then emulatorlaw26_AsmexprBrackets.j0 2000 S true L a h.1 h.2.1 h.2.2 else if (L.length : Int) > 60 then emulatorlaw26_AsmexprBrackets.j0 2000 S true L a h.1 h.2.1 h.2.2 else if q = true then emulatorlaw26_AsmexprBrackets.j0 2000 S true L a h.1 h.2.1 h.2.2 else emulatorlaw26_AsmexprBrackets.j0 2000 S (decide ((h.2.1.size : Int) > 100)) L a h.1 h.2.1 h.2.2) = some true
  cases g with
  | true => rw [if_pos rfl]; exact hj true (fun h => by cases h)
  | false =>
    rw [if_neg (by decide)]
    by_cases c60 : (L.length : Int) > 60
    · rw [if_pos c60]; exact hj true (fun h => by cases h)
    · rw [if_neg c60]
      cases q with
      | true => rw [if_pos rfl]; exact hj true (fun h => by cases h)
      | false =>
        rw [if_neg (by decide)]
        refine hj _ (fun hd => ?_)
        rw [decide_eq_false_iff_not] at hd
        exact ⟨⟨by omega, (g2 rfl).2⟩, by have := (q2 rfl).1; omega, by omega⟩
end Go.Proofs.Ytpinoobgnnlccaa.A
