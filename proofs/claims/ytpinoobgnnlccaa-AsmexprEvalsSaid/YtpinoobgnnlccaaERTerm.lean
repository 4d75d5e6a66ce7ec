/- Of the proof of AsmexprEvals: RTerm. Conditions: those of each theorem. -/
import Derived.Test.YtpinoobgnnlccaaERSpec
import Derived.Test.YtpinoobgnnlccaaEAx0
import Derived.Test.YtpinoobgnnlccaaEAx19
namespace Go.Proofs.Ytpinoobgnnlccaa.A
open Go.RowKit Go.Proofs.YtpinoobgnnlccaaW.PrintWords Go.Proofs.YtpinoobgnnlccaaW.PrintLast Go.Proofs.YtpinoobgnnlccaaW.PrintMore
attribute [local go_sem] max2_int min2_int max_two min_two max_three min_three max_four min_four
set_option linter.unusedVariables false
set_option linter.unusedSimpArgs false
mutual
def rterm36.j0 (D : Int) : Nat → Int → Int → Bool → List (S38) → List (S44) → Int → ByteArray → Int → Option (Int × ByteArray × Int × Int × Int)
 | 0, _, _, _, _, _, _, _, _ => none
 | k + 1, x1, x2, x25, x126000, x126001, x126002, x126003, x126004 => if x25 = true then (if x2 ≥ 16 then (some (0, (⟨#[]⟩ : ByteArray), 0, 0, 7)) else (rterm36.j1 D k x1 x2 x126000 x126001 x126002 x126003 x126004)) else (rterm36.j1 D k x1 x2 x126000 x126001 x126002 x126003 x126004)
def rterm36.j1 (D : Int) : Nat → Int → Int → List (S38) → List (S44) → Int → ByteArray → Int → Option (Int × ByteArray × Int × Int × Int)
 | 0, _, _, _, _, _, _, _ => none
 | k + 1, x1, x2, x126000, x126001, x126002, x126003, x126004 => (emulatorref26_scope_is.f x126000 x126001 x126002 x126003 x126004 x1 (⟨#[45]⟩ : ByteArray)).bind fun t129 => (if t129 = true then ((rtermF D  x126000 x126001 x126002 x126003 x126004 (wrap64 (x1 + 1)) (wrap64 (x2 + 1))).bind fun bt130 => (if bt130.2.2.2.2 = 0 then ((emulatorref26_Sub.f k 0 (⟨#[]⟩ : ByteArray) 0 bt130.1 bt130.2.1 bt130.2.2.1).bind fun bt136 => (some (bt136.1, bt136.2.1, bt136.2.2.1, bt130.2.2.2.1, bt136.2.2.2))) else (some (0, (⟨#[]⟩ : ByteArray), 0, 0, bt130.2.2.2.2)))) else ((emulatorref26_scope_is.f x126000 x126001 x126002 x126003 x126004 x1 (⟨#[40]⟩ : ByteArray)).bind fun t141 => (if t141 = true then ((rexpF D  x126000 x126001 x126002 x126003 x126004 (wrap64 (x1 + 1)) (wrap64 (x2 + 1))).bind fun bt142 => (if bt142.2.2.2.2 = 0 then ((emulatorref26_scope_is.f x126000 x126001 x126002 x126003 x126004 bt142.2.2.2.1 (⟨#[41]⟩ : ByteArray)).bind fun t148 => (if t148 = true then (some (bt142.1, bt142.2.1, bt142.2.2.1, wrap64 (bt142.2.2.2.1 + 1), 0)) else (some (0, (⟨#[]⟩ : ByteArray), 0, 0, 3)))) else (some (0, (⟨#[]⟩ : ByteArray), 0, 0, bt142.2.2.2.2)))) else (if x1 ≥ (x126000.length : Int) then (some (0, (⟨#[]⟩ : ByteArray), 0, 0, 3)) else (if 0 ≤ x1 then (if x1 < (x126000.length : Int) then (if ((rd_T38 x126000 x1).f0) = 2 then (some (0, (⟨#[]⟩ : ByteArray), Go.bits .and .i64 ((rd_T38 x126000 x1).f2) 65535, wrap64 (x1 + 1), 0)) else (if ((rd_T38 x126000 x1).f0) = 1 then (rterm36.j2 D k x1 (((rd_T38 x126000 x1).f1).toList == ([46] : List UInt8)) x126000 x126001 x126002 x126003 x126004 ((rd_T38 x126000 x1).f0) ((rd_T38 x126000 x1).f1) ((rd_T38 x126000 x1).f2) ((rd_T38 x126000 x1).f3)) else (rterm36.j2 D k x1 false x126000 x126001 x126002 x126003 x126004 ((rd_T38 x126000 x1).f0) ((rd_T38 x126000 x1).f1) ((rd_T38 x126000 x1).f2) ((rd_T38 x126000 x1).f3)))) else (none)) else (none))))))
def rterm36.j2 (D : Int) : Nat → Int → Bool → List (S38) → List (S44) → Int → ByteArray → Int → Int → ByteArray → Int → Int → Option (Int × ByteArray × Int × Int × Int)
 | 0, _, _, _, _, _, _, _, _, _, _, _ => none
 | k + 1, x1, x107, x126000, x126001, x126002, x126003, x126004, x151000, x151001, x151002, x151003 => if x107 = true then (some (x126002, x126003, x126004, wrap64 (x1 + 1), 0)) else (if x151000 = 1 then ((emulatorref25_Name.f k x151001).bind fun t151 => (if t151 = true then ((emulatorref26_named.f k x151001 x126001).bind fun bt152 => (some (bt152.1, bt152.2.1, bt152.2.2, wrap64 (x1 + 1), 0))) else (some (0, (⟨#[]⟩ : ByteArray), 0, 0, 3)))) else (some (0, (⟨#[]⟩ : ByteArray), 0, 0, 3)))
end
def rterm36.f (D : Int) (k : Nat) (l0_0 : List (S38)) (l0_1 : List (S44)) (a0_2 : Int) (a0_3 : ByteArray) (a0_4 : Int) (a1 : Int) (a2 : Int) : Option (Int × ByteArray × Int × Int × Int) := (emulatorref26_scope_is.f l0_0 l0_1 a0_2 a0_3 a0_4 a1 (⟨#[45]⟩ : ByteArray)).bind fun t127 => (if t127 = true then (rterm36.j0 D k a1 a2 true l0_0 l0_1 a0_2 a0_3 a0_4) else ((emulatorref26_scope_is.f l0_0 l0_1 a0_2 a0_3 a0_4 a1 (⟨#[40]⟩ : ByteArray)).bind fun t128 => (rterm36.j0 D k a1 a2 t128 l0_0 l0_1 a0_2 a0_3 a0_4)))
set_option maxHeartbeats 8000000 in
set_option maxRecDepth 100000 in
theorem rterm36.calls (D : Int) (hT : TermC D) (hE : ExpC D) (k : Nat) (A0_0 : Option Addr) (c0_0 : Nat) (l0_0 : List (S38)) (A0_1 : Option Addr) (c0_1 : Nat) (l0_1 : List (S44)) (a0_2 : Int) (a0_3 : ByteArray) (a0_4 : Int) (a1 : Int) (a2 : Int) (r1 : Int) (r2 : ByteArray) (r3 : Int) (r4 : Int) (r5 : Int) (w : World) (hr0_0 : Kd.C k38 w A0_0 l0_0.length l0_0) (hc0_0 : l0_0.length ≤ c0_0) (hr0_1 : Kd.C k44 w A0_1 l0_1.length l0_1) (hc0_1 : l0_1.length ≤ c0_1) (h : rterm36.f D k l0_0 l0_1 a0_2 a0_3 a0_4 a1 a2 = some (r1, r2, r3, r4, r5)) :
  Calls Try.prog 36 #[.agg #[.slice A0_0 l0_0.length c0_0, .slice A0_1 l0_1.length c0_1, .int .i64 a0_2, .string a0_3, .int .i64 a0_4], .int .i64 a1, .int .i64 a2] w fun e w' => e = .returned (.tuple #[.agg #[.int .i64 r1, .string r2, .int .i64 r3], .int .i64 r4, .int .i64 r5]) ∧ Below w.heap.size w w' := by
 have HT := Aside0.mk hT
 have HE := Aside0.mk hE
 clear hT hE
 have hu58 := Try.underlying58
 have hu24 := Try.underlying24
 have hu38 := Try.underlying38
 have HR0_0 := Aside0.mk hr0_0
 have HC0_0 := Aside0.mk hc0_0
 clear hr0_0 hc0_0
 have HR0_1 := Aside0.mk hr0_1
 have HC0_1 := Aside0.mk hc0_1
 clear hr0_1 hc0_1
 have HB := Aside0.mk (Below.refl w.heap.size w)
 have H : ((emulatorref26_scope_is.f l0_0 l0_1 a0_2 a0_3 a0_4 a1 (⟨#[45]⟩ : ByteArray)).bind fun t127 => (if t127 = true then (rterm36.j0 D k a1 a2 true l0_0 l0_1 a0_2 a0_3 a0_4) else ((emulatorref26_scope_is.f l0_0 l0_1 a0_2 a0_3 a0_4 a1 (⟨#[40]⟩ : ByteArray)).bind fun t128 => (rterm36.j0 D k a1 a2 t128 l0_0 l0_1 a0_2 a0_3 a0_4)))) = some (r1, r2, r3, r4, r5) := h
 clear h
 have HC4 := Aside0.mk H
 clear H
 go_enter Try.func36, Try.ntmps36
 go_upto_region 1 with (first | ((with_reducible refine gate_dst (N := 3) rfl ?_); refine box_event ?hg (N := 3) ?hd (cs := #[.slice A0_0 l0_0.length c0_0, .slice A0_1 l0_1.length c0_1, .int .i64 a0_2, .string a0_3, .int .i64 a0_4]) (t := 58) ?hr ?_; (case hd => rfl); (case hg => rfl); (case hr => first | (go_simp; done) | (go_simp; rfl)); intro gb125 hg w5 hbox hb; have n0_ := Aside0.mk (below_step (by repeat (first|(with_reducible first | exact HB.out | apply below_alloc | apply pw_below_drewN | apply below_drew1) | exact HB.out)) hb); have n1_ := Aside0.mk (hbox); have n2_ := Aside0.mk ((by rw [hg]; exact (below_size (by repeat (first|(with_reducible first | exact HB.out | apply below_alloc | apply pw_below_drewN | apply below_drew1) | exact HB.out))) : w.heap.size ≤ gb125)); have n3_ := n2_; clear HB; have HB := n0_; have BK125 := n1_; have GW125 := n2_; have GE125 := n3_; clear n0_ n1_ n2_ n3_; clear hb hbox hg) | ((with_reducible refine gate_dst (N := 6) rfl ?_); refine box_event ?hg (N := 6) ?hd (cs := #[.int .i64 0, .string (⟨#[]⟩ : ByteArray), .int .i64 0]) (t := 24) ?hr ?_; (case hd => rfl); (case hg => rfl); (case hr => first | (go_simp; done) | (go_simp; rfl)); intro gb126 hg w6 hbox hb; have n0_ := Aside0.mk (blk_below (g := gb125) (o := .cells #[.slice A0_0 l0_0.length c0_0, .slice A0_1 l0_1.length c0_1, .int .i64 a0_2, .string a0_3, .int .i64 a0_4] 58 (0, 0)) (by (with_reducible repeat(first|apply bN|apply bD)); exact BK125.out) hb); have n1_ := Aside0.mk (below_step (by repeat (first|(with_reducible first | exact HB.out | apply below_alloc | apply pw_below_drewN | apply below_drew1 | refine below_set ?_ GE125.out) | exact HB.out)) hb); have n2_ := Aside0.mk (hbox); have n3_ := Aside0.mk ((by rw [hg]; exact (below_size (by repeat (first|(with_reducible first | exact HB.out | apply below_alloc | apply pw_below_drewN | apply below_drew1 | refine below_set ?_ GE125.out) | exact HB.out))) : w.heap.size ≤ gb126)); have n4_ := n3_; have n5_ := Aside0.mk ((by rw [hg]; exact Nat.ne_of_lt (blk_lt (g := gb125) (o := .cells #[.slice A0_0 l0_0.length c0_0, .slice A0_1 l0_1.length c0_1, .int .i64 a0_2, .string a0_3, .int .i64 a0_4] 58 (0, 0)) (by (with_reducible repeat(first|apply bN|apply bD)); exact BK125.out)) : gb125 ≠ gb126)); have n6_ := Aside0.mk n5_.out.symm; clear BK125; clear HB; have BK125 := n0_; have HB := n1_; have BK126 := n2_; have GW126 := n3_; have GE126 := n4_; have NB125_126 := n5_; have NB126_125 := n6_; clear n0_ n1_ n2_ n3_ n4_ n5_ n6_; clear hb hbox hg))
 (try simp only [Act.put, List.setIfInBounds_toArray, List.set_cons_zero, List.set_cons_succ])
 go_cut [25] (fun v25 wc => ∃ (kq : Nat) (x25_3 : Bool), v25 = .bool x25_3 ∧ Aside0 (rterm36.j0 D kq a1 a2 x25_3 l0_0 l0_1 a0_2 a0_3 a0_4 = some (r1, r2, r3, r4, r5)) ∧ Aside0 (kq ≤ k) ∧ Aside0 (wc.heap[gb125]? = some (.cells #[(.slice A0_0 l0_0.length c0_0), (.slice A0_1 l0_1.length c0_1), .int .i64 a0_2, .string a0_3, .int .i64 a0_4] 58 (0, 0))) ∧ Aside0 (wc.heap[gb126]? = some (.cells #[.int .i64 0, .string (⟨#[]⟩ : ByteArray), .int .i64 0] 24 (0, 0))) ∧ Aside0 (Below w.heap.size w wc))
 case first =>
  have H := HC4.out
  clear HC4
  replace H := Option.bind_eq_some_iff.mp H
  obtain ⟨t127, A70, H⟩ := H
  replace H : (if t127 = true then (rterm36.j0 D k a1 a2 true l0_0 l0_1 a0_2 a0_3 a0_4) else ((emulatorref26_scope_is.f l0_0 l0_1 a0_2 a0_3 a0_4 a1 (⟨#[40]⟩ : ByteArray)).bind fun t128 => (rterm36.j0 D k a1 a2 t128 l0_0 l0_1 a0_2 a0_3 a0_4))) = some (r1, r2, r3, r4, r5) := H
  have A7 := Aside0.mk A70
  clear A70
  by_cases c8 : t127 = true
  ·subst c8
   have H1 : (rterm36.j0 D k a1 a2 true l0_0 l0_1 a0_2 a0_3 a0_4) = some (r1, r2, r3, r4, r5) := by rw [if_pos rfl] at H; exact H
   clear H
   have H := H1
   clear H1
   have H' := Aside0.mk H
   clear H
   have hnb9 := NB125_126.out
   have hnc9 := NB126_125.out
   have hcz10_0 : w6.cell? ⟨gb125, 0, none⟩ = some (.slice A0_0 l0_0.length c0_0) := (blk_cell BK125.out 0).trans rfl
   have hcz10_1 : w6.cell? ⟨gb125, 1, none⟩ = some (.slice A0_1 l0_1.length c0_1) := (blk_cell BK125.out 1).trans rfl
   have hcz10_2 : w6.cell? ⟨gb125, 2, none⟩ = some (.int .i64 a0_2) := (blk_cell BK125.out 2).trans rfl
   have hcz10_3 : w6.cell? ⟨gb125, 3, none⟩ = some (.string a0_3) := (blk_cell BK125.out 3).trans rfl
   have hcz10_4 : w6.cell? ⟨gb125, 4, none⟩ = some (.int .i64 a0_4) := (blk_cell BK125.out 4).trans rfl
   have hfz10_0 := blk_frozen BK125.out 0
   have hfz10_1 := blk_frozen BK125.out 1
   have hfz10_2 := blk_frozen BK125.out 2
   have hfz10_3 := blk_frozen BK125.out 3
   have hfz10_4 := blk_frozen BK125.out 4
   go_wp2_with (first | ((with_reducible refine gate_callee (f := 50) rfl ?_); refine goesL_ (some 20) rfl rfl Try.func50 (by kernel_rfl) rfl #[.agg #[.slice A0_0 l0_0.length c0_0, .slice A0_1 l0_1.length c0_1, .int .i64 a0_2, .string a0_3, .int .i64 a0_4], .int .i64 a1, .string (⟨#[45]⟩ : ByteArray)] rfl (by (try simp only [List.map_toArray, List.map_cons, List.map_nil]); first | done | rfl | (simp only [List.length_drop, List.length_take]; rfl)) ?_; (with_reducible refine (emulatorref26_scope_is.calls _ _ l0_0 _ _ l0_1 a0_2 a0_3 a0_4 a1 (⟨#[45]⟩ : ByteArray) true _ ?side1 ?side2 ?side3 ?side4 A7.out).mono ?_); (case side1 => repeat (first | exact (Kd.C_below HR0_0.out HB.out)|(with_reducible refine Kd.C_alloc ?_ _)|(with_reducible refine Kd.C_drewN ?_ _)|(with_reducible refine Kd.C_drew ?_))); (case side2 => exact HC0_0.out); (case side3 => repeat (first | exact (Kd.C_below HR0_1.out HB.out)|(with_reducible refine Kd.C_alloc ?_ _)|(with_reducible refine Kd.C_drewN ?_ _)|(with_reducible refine Kd.C_drew ?_))); (case side4 => exact HC0_1.out); rintro e w11 ⟨rfl, hb⟩; refine ⟨_, rfl, ?_⟩; have n0_ := Aside0.mk (blk_below (g := gb125) (o := .cells #[.slice A0_0 l0_0.length c0_0, .slice A0_1 l0_1.length c0_1, .int .i64 a0_2, .string a0_3, .int .i64 a0_4] 58 (0, 0)) (by (with_reducible repeat(first|apply bN|apply bD)); exact BK125.out) hb); have n1_ := Aside0.mk (blk_below (g := gb126) (o := .cells #[.int .i64 0, .string (⟨#[]⟩ : ByteArray), .int .i64 0] 24 (0, 0)) (by (with_reducible repeat(first|apply bN|apply bD)); exact BK126.out) hb); have n2_ := Aside0.mk (below_step (by repeat (first|(with_reducible first | exact HB.out | apply below_alloc | apply pw_below_drewN | apply below_drew1 | refine below_set ?_ GE125.out | refine below_set ?_ GE126.out) | exact HB.out)) hb); clear BK125; clear BK126; clear HB; have BK125 := n0_; have BK126 := n1_; have HB := n2_; clear n0_ n1_ n2_; (try clear hb); (try clear hb2); (try clear hk); (try clear hi)))
   go_meet
   case rel => exact ⟨_, (true), (by first | rfl | (simp; done) | (simp [*]; done)), H', ⟨by first | omega | exact Nat.le_refl _⟩, ⟨by (with_reducible repeat(first|apply bN|apply bD)); exact BK125.out⟩, ⟨by (with_reducible repeat(first|apply bN|apply bD)); exact BK126.out⟩, ⟨by repeat (first|(with_reducible first | exact HB.out | apply below_alloc | apply pw_below_drewN | apply below_drew1 | refine below_set ?_ GE125.out | refine below_set ?_ GE126.out) | exact HB.out)⟩⟩
  ·replace c8 := Bool.eq_false_iff.mpr c8
   subst c8
   have H1 : ((emulatorref26_scope_is.f l0_0 l0_1 a0_2 a0_3 a0_4 a1 (⟨#[40]⟩ : ByteArray)).bind fun t128 => (rterm36.j0 D k a1 a2 t128 l0_0 l0_1 a0_2 a0_3 a0_4)) = some (r1, r2, r3, r4, r5) := by rw [if_neg (show ¬ (false = true) by decide)] at H; exact H
   clear H
   have H := H1
   clear H1
   replace H := Option.bind_eq_some_iff.mp H
   obtain ⟨t128, A120, H⟩ := H
   replace H : (rterm36.j0 D k a1 a2 t128 l0_0 l0_1 a0_2 a0_3 a0_4) = some (r1, r2, r3, r4, r5) := H
   have A12 := Aside0.mk A120
   clear A120
   have H' := Aside0.mk H
   clear H
   have hnb13 := NB125_126.out
   have hnc13 := NB126_125.out
   have hcz14_0 : w6.cell? ⟨gb125, 0, none⟩ = some (.slice A0_0 l0_0.length c0_0) := (blk_cell BK125.out 0).trans rfl
   have hcz14_1 : w6.cell? ⟨gb125, 1, none⟩ = some (.slice A0_1 l0_1.length c0_1) := (blk_cell BK125.out 1).trans rfl
   have hcz14_2 : w6.cell? ⟨gb125, 2, none⟩ = some (.int .i64 a0_2) := (blk_cell BK125.out 2).trans rfl
   have hcz14_3 : w6.cell? ⟨gb125, 3, none⟩ = some (.string a0_3) := (blk_cell BK125.out 3).trans rfl
   have hcz14_4 : w6.cell? ⟨gb125, 4, none⟩ = some (.int .i64 a0_4) := (blk_cell BK125.out 4).trans rfl
   have hfz14_0 := blk_frozen BK125.out 0
   have hfz14_1 := blk_frozen BK125.out 1
   have hfz14_2 := blk_frozen BK125.out 2
   have hfz14_3 := blk_frozen BK125.out 3
   have hfz14_4 := blk_frozen BK125.out 4
   go_wp2_with (first | ((with_reducible refine gate_callee (f := 50) rfl ?_); refine goesL_ (some 20) rfl rfl Try.func50 (by kernel_rfl) rfl #[.agg #[.slice A0_0 l0_0.length c0_0, .slice A0_1 l0_1.length c0_1, .int .i64 a0_2, .string a0_3, .int .i64 a0_4], .int .i64 a1, .string (⟨#[45]⟩ : ByteArray)] rfl (by (try simp only [List.map_toArray, List.map_cons, List.map_nil]); first | done | rfl | (simp only [List.length_drop, List.length_take]; rfl)) ?_; (with_reducible refine (emulatorref26_scope_is.calls _ _ l0_0 _ _ l0_1 a0_2 a0_3 a0_4 a1 (⟨#[45]⟩ : ByteArray) false _ ?side1 ?side2 ?side3 ?side4 A7.out).mono ?_); (case side1 => repeat (first | exact (Kd.C_below HR0_0.out HB.out)|(with_reducible refine Kd.C_alloc ?_ _)|(with_reducible refine Kd.C_drewN ?_ _)|(with_reducible refine Kd.C_drew ?_))); (case side2 => exact HC0_0.out); (case side3 => repeat (first | exact (Kd.C_below HR0_1.out HB.out)|(with_reducible refine Kd.C_alloc ?_ _)|(with_reducible refine Kd.C_drewN ?_ _)|(with_reducible refine Kd.C_drew ?_))); (case side4 => exact HC0_1.out); rintro e w15 ⟨rfl, hb⟩; refine ⟨_, rfl, ?_⟩; have n0_ := Aside0.mk (blk_below (g := gb125) (o := .cells #[.slice A0_0 l0_0.length c0_0, .slice A0_1 l0_1.length c0_1, .int .i64 a0_2, .string a0_3, .int .i64 a0_4] 58 (0, 0)) (by (with_reducible repeat(first|apply bN|apply bD)); exact BK125.out) hb); have n1_ := Aside0.mk (blk_below (g := gb126) (o := .cells #[.int .i64 0, .string (⟨#[]⟩ : ByteArray), .int .i64 0] 24 (0, 0)) (by (with_reducible repeat(first|apply bN|apply bD)); exact BK126.out) hb); have n2_ := Aside0.mk (below_step (by repeat (first|(with_reducible first | exact HB.out | apply below_alloc | apply pw_below_drewN | apply below_drew1 | refine below_set ?_ GE125.out | refine below_set ?_ GE126.out) | exact HB.out)) hb); clear BK125; clear BK126; clear HB; have BK125 := n0_; have BK126 := n1_; have HB := n2_; clear n0_ n1_ n2_; (try clear hb); (try clear hb2); (try clear hk); (try clear hi); have hcz16_0 : w15.cell? ⟨gb125, 0, none⟩ = some (.slice A0_0 l0_0.length c0_0) := (blk_cell BK125.out 0).trans rfl; have hcz16_1 : w15.cell? ⟨gb125, 1, none⟩ = some (.slice A0_1 l0_1.length c0_1) := (blk_cell BK125.out 1).trans rfl; have hcz16_2 : w15.cell? ⟨gb125, 2, none⟩ = some (.int .i64 a0_2) := (blk_cell BK125.out 2).trans rfl; have hcz16_3 : w15.cell? ⟨gb125, 3, none⟩ = some (.string a0_3) := (blk_cell BK125.out 3).trans rfl; have hcz16_4 : w15.cell? ⟨gb125, 4, none⟩ = some (.int .i64 a0_4) := (blk_cell BK125.out 4).trans rfl; have hfz16_0 := blk_frozen BK125.out 0; have hfz16_1 := blk_frozen BK125.out 1; have hfz16_2 := blk_frozen BK125.out 2; have hfz16_3 := blk_frozen BK125.out 3; have hfz16_4 := blk_frozen BK125.out 4) | (go_at_call 50; (with_reducible refine (emulatorref26_scope_is.calls _ _ l0_0 _ _ l0_1 a0_2 a0_3 a0_4 a1 (⟨#[40]⟩ : ByteArray) t128 _ ?side1 ?side2 ?side3 ?side4 A12.out).mono ?_); (case side1 => repeat (first | exact (Kd.C_below HR0_0.out HB.out)|(with_reducible refine Kd.C_alloc ?_ _)|(with_reducible refine Kd.C_drewN ?_ _)|(with_reducible refine Kd.C_drew ?_))); (case side2 => exact HC0_0.out); (case side3 => repeat (first | exact (Kd.C_below HR0_1.out HB.out)|(with_reducible refine Kd.C_alloc ?_ _)|(with_reducible refine Kd.C_drewN ?_ _)|(with_reducible refine Kd.C_drew ?_))); (case side4 => exact HC0_1.out); rintro e w17 ⟨rfl, hb⟩; have n0_ := Aside0.mk (blk_below (g := gb125) (o := .cells #[.slice A0_0 l0_0.length c0_0, .slice A0_1 l0_1.length c0_1, .int .i64 a0_2, .string a0_3, .int .i64 a0_4] 58 (0, 0)) (by (with_reducible repeat(first|apply bN|apply bD)); exact BK125.out) hb); have n1_ := Aside0.mk (blk_below (g := gb126) (o := .cells #[.int .i64 0, .string (⟨#[]⟩ : ByteArray), .int .i64 0] 24 (0, 0)) (by (with_reducible repeat(first|apply bN|apply bD)); exact BK126.out) hb); have n2_ := Aside0.mk (below_step (by repeat (first|(with_reducible first | exact HB.out | apply below_alloc | apply pw_below_drewN | apply below_drew1 | refine below_set ?_ GE125.out | refine below_set ?_ GE126.out) | exact HB.out)) hb); clear BK125; clear BK126; clear HB; have BK125 := n0_; have BK126 := n1_; have HB := n2_; clear n0_ n1_ n2_; (try clear hb); (try clear hb2); (try clear hk); (try clear hi)))
   go_meet
   case rel => exact ⟨_, (t128), (by first | rfl | (simp; done) | (simp [*]; done)), H', ⟨by first | omega | exact Nat.le_refl _⟩, ⟨by (with_reducible repeat(first|apply bN|apply bD)); exact BK125.out⟩, ⟨by (with_reducible repeat(first|apply bN|apply bD)); exact BK126.out⟩, ⟨by repeat (first|(with_reducible first | exact HB.out | apply below_alloc | apply pw_below_drewN | apply below_drew1 | refine below_set ?_ GE125.out | refine below_set ?_ GE126.out) | exact HB.out)⟩⟩
 case rest =>
  clear HC4
  try clear c1
  try clear p2
  try clear c3
  try clear c5
  try clear c8
  try clear c9
  try clear c13
  try clear hcz10_0
  try clear hcz10_1
  try clear hcz10_2
  try clear hcz10_3
  try clear hcz10_4
  try clear hcz14_0
  try clear hcz14_1
  try clear hcz14_2
  try clear hcz14_3
  try clear hcz14_4
  try clear hcz16_0
  try clear hcz16_1
  try clear hcz16_2
  try clear hcz16_3
  try clear hcz16_4
  try clear hfz10_0
  try clear hfz10_1
  try clear hfz10_2
  try clear hfz10_3
  try clear hfz10_4
  try clear hfz14_0
  try clear hfz14_1
  try clear hfz14_2
  try clear hfz14_3
  try clear hfz14_4
  try clear hfz16_0
  try clear hfz16_1
  try clear hfz16_2
  try clear hfz16_3
  try clear hfz16_4
  obtain ⟨kq, x25_3, rfl, HA, HJ3, BK125, BK126, HB⟩ := hcut
  cases kq with
  | zero => exact absurd HA.out (by simp [rterm36.j0])
  | succ kj3 =>
   have H := HA.out
   clear HA
   simp only [rterm36.j0] at H
   have HC18 := Aside0.mk H
   clear H
   go_upto_if 25 with (fail)
   go_cut [] (fun wc => ∃ (kq : Nat) (x127000_17 : Int) (x127001_17 : ByteArray) (x127002_17 : Int), Aside0 (rterm36.j1 D kq a1 a2 l0_0 l0_1 a0_2 a0_3 a0_4 = some (r1, r2, r3, r4, r5)) ∧ Aside0 (kq ≤ kj3) ∧ Aside0 (wc.heap[gb125]? = some (.cells #[(.slice A0_0 l0_0.length c0_0), (.slice A0_1 l0_1.length c0_1), .int .i64 a0_2, .string a0_3, .int .i64 a0_4] 58 (0, 0))) ∧ Aside0 (wc.heap[gb126]? = some (.cells #[.int .i64 x127000_17, .string x127001_17, .int .i64 x127002_17] 24 (0, 0))) ∧ Aside0 (Below w.heap.size w wc))
   case first =>
    have H := HC18.out
    clear HC18
    by_cases c19 : x25_3 = true
    ·subst c19
     have H1 : (if a2 ≥ 16 then (some (0, (⟨#[]⟩ : ByteArray), 0, 0, 7)) else (rterm36.j1 D kj3 a1 a2 l0_0 l0_1 a0_2 a0_3 a0_4)) = some (r1, r2, r3, r4, r5) := by rw [if_pos rfl] at H; exact H
     clear H
     have H := H1
     clear H1
     by_cases c20 : a2 ≥ 16
     ·rw [if_pos c20] at H
      have c20b0 : decide (16 ≤ a2) = true := decide_eq_true c20
      clear c20
      (first | rw [c20b0] | (simp only [i64_w, i32_w]; rw [c20b0]) | skip)
      simp only [Option.some.injEq, Prod.mk.injEq] at H
      obtain ⟨rfl, rfl, rfl, rfl, rfl⟩ := H
      have hnb21 := NB126_125.out
      have hnc21 := NB125_126.out
      have hcz22_0 : wc.cell? ⟨gb126, 0, none⟩ = some (.int .i64 0) := (blk_cell BK126.out 0).trans rfl
      have hcz22_1 : wc.cell? ⟨gb126, 1, none⟩ = some (.string (⟨#[]⟩ : ByteArray)) := (blk_cell BK126.out 1).trans rfl
      have hcz22_2 : wc.cell? ⟨gb126, 2, none⟩ = some (.int .i64 0) := (blk_cell BK126.out 2).trans rfl
      have hfz22_0 := blk_frozen BK126.out 0
      have hfz22_1 := blk_frozen BK126.out 1
      have hfz22_2 := blk_frozen BK126.out 2
      go_wp2
      refine bodyPost_ret (results_ctt rfl _ _ gb126 24 #[.int .i64 0, .string (⟨#[]⟩ : ByteArray), .int .i64 0] (0, 0) _ rfl (by (with_reducible repeat(first|apply bN|apply bD)); refine blk_put (cs := #[.int .i64 0, .string (⟨#[]⟩ : ByteArray), .int .i64 0]) ?_ 2 _ rfl; (with_reducible repeat(first|apply bN|apply bD)); refine blk_put (cs := #[.int .i64 0, .string (⟨#[]⟩ : ByteArray), .int .i64 0]) ?_ 1 _ rfl; (with_reducible repeat(first|apply bN|apply bD)); refine blk_put (cs := #[.int .i64 0, .string (⟨#[]⟩ : ByteArray), .int .i64 0]) ?_ 0 _ rfl; (with_reducible repeat(first|apply bN|apply bD)); exact BK126.out) Try.underlying24 rfl (by kernel_rfl)) rfl ?_
      exact ⟨by first | rfl | (simp [errW_none, errW_some] <;> rfl) | (simp [*, errW_none, errW_some] <;> rfl), by repeat (first|(with_reducible first | exact HB.out | apply below_alloc | apply pw_below_drewN | apply below_drew1 | refine below_set ?_ GE125.out | refine below_set ?_ GE126.out) | exact HB.out)⟩
     ·rw [if_neg c20] at H
      have c20b0 : decide (16 ≤ a2) = false := decide_eq_false c20
      clear c20
      (first | rw [c20b0] | (simp only [i64_w, i32_w]; rw [c20b0]) | skip)
      have H' := Aside0.mk H
      clear H
      go_wp2
      go_meet
      case rel => exact ⟨_, (0), ((⟨#[]⟩ : ByteArray)), (0), H', ⟨by have := HJ3.out; first | omega | exact Nat.le_refl _⟩, ⟨by (with_reducible repeat(first|apply bN|apply bD)); exact BK125.out⟩, ⟨by (with_reducible repeat(first|apply bN|apply bD)); exact BK126.out⟩, ⟨by repeat (first|(with_reducible first | exact HB.out | apply below_alloc | apply pw_below_drewN | apply below_drew1 | refine below_set ?_ GE125.out | refine below_set ?_ GE126.out) | exact HB.out)⟩⟩
    ·replace c19 := Bool.eq_false_iff.mpr c19
     subst c19
     have H1 : (rterm36.j1 D kj3 a1 a2 l0_0 l0_1 a0_2 a0_3 a0_4) = some (r1, r2, r3, r4, r5) := by rw [if_neg (show ¬ (false = true) by decide)] at H; exact H
     clear H
     have H := H1
     clear H1
     have H' := Aside0.mk H
     clear H
     go_wp2
     go_meet
     case rel => exact ⟨_, (0), ((⟨#[]⟩ : ByteArray)), (0), H', ⟨by have := HJ3.out; first | omega | exact Nat.le_refl _⟩, ⟨by (with_reducible repeat(first|apply bN|apply bD)); exact BK125.out⟩, ⟨by (with_reducible repeat(first|apply bN|apply bD)); exact BK126.out⟩, ⟨by repeat (first|(with_reducible first | exact HB.out | apply below_alloc | apply pw_below_drewN | apply below_drew1 | refine below_set ?_ GE125.out | refine below_set ?_ GE126.out) | exact HB.out)⟩⟩
   case rest =>
    clear HC18
    try clear c1
    try clear c2
    try clear p2
    try clear c3
    try clear c5
    try clear c8
    try clear c9
    try clear c13
    try clear c19
    try clear c20
    try clear c20b0
    try clear c21
    try clear hcz10_0
    try clear hcz10_1
    try clear hcz10_2
    try clear hcz10_3
    try clear hcz10_4
    try clear hcz14_0
    try clear hcz14_1
    try clear hcz14_2
    try clear hcz14_3
    try clear hcz14_4
    try clear hcz16_0
    try clear hcz16_1
    try clear hcz16_2
    try clear hcz16_3
    try clear hcz16_4
    try clear hcz22_0
    try clear hcz22_1
    try clear hcz22_2
    try clear hfz10_0
    try clear hfz10_1
    try clear hfz10_2
    try clear hfz10_3
    try clear hfz10_4
    try clear hfz14_0
    try clear hfz14_1
    try clear hfz14_2
    try clear hfz14_3
    try clear hfz14_4
    try clear hfz16_0
    try clear hfz16_1
    try clear hfz16_2
    try clear hfz16_3
    try clear hfz16_4
    try clear hfz22_0
    try clear hfz22_1
    try clear hfz22_2
    try clear p2
    obtain ⟨kq, x127000_17, x127001_17, x127002_17, HA, HJ17, BK125, BK126, HB⟩ := hcut
    cases kq with
    | zero => exact absurd HA.out (by simp [rterm36.j1])
    | succ kj17 =>
     have H := HA.out
     clear HA
     simp only [rterm36.j1] at H
     replace H := Option.bind_eq_some_iff.mp H
     obtain ⟨t129, A230, H⟩ := H
     replace H : (if t129 = true then ((rtermF D  l0_0 l0_1 a0_2 a0_3 a0_4 (wrap64 (a1 + 1)) (wrap64 (a2 + 1))).bind fun bt130 => (if bt130.2.2.2.2 = 0 then ((emulatorref26_Sub.f kj17 0 (⟨#[]⟩ : ByteArray) 0 bt130.1 bt130.2.1 bt130.2.2.1).bind fun bt136 => (some (bt136.1, bt136.2.1, bt136.2.2.1, bt130.2.2.2.1, bt136.2.2.2))) else (some (0, (⟨#[]⟩ : ByteArray), 0, 0, bt130.2.2.2.2)))) else ((emulatorref26_scope_is.f l0_0 l0_1 a0_2 a0_3 a0_4 a1 (⟨#[40]⟩ : ByteArray)).bind fun t141 => (if t141 = true then ((rexpF D  l0_0 l0_1 a0_2 a0_3 a0_4 (wrap64 (a1 + 1)) (wrap64 (a2 + 1))).bind fun bt142 => (if bt142.2.2.2.2 = 0 then ((emulatorref26_scope_is.f l0_0 l0_1 a0_2 a0_3 a0_4 bt142.2.2.2.1 (⟨#[41]⟩ : ByteArray)).bind fun t148 => (if t148 = true then (some (bt142.1, bt142.2.1, bt142.2.2.1, wrap64 (bt142.2.2.2.1 + 1), 0)) else (some (0, (⟨#[]⟩ : ByteArray), 0, 0, 3)))) else (some (0, (⟨#[]⟩ : ByteArray), 0, 0, bt142.2.2.2.2)))) else (if a1 ≥ (l0_0.length : Int) then (some (0, (⟨#[]⟩ : ByteArray), 0, 0, 3)) else (if 0 ≤ a1 then (if a1 < (l0_0.length : Int) then (if ((rd_T38 l0_0 a1).f0) = 2 then (some (0, (⟨#[]⟩ : ByteArray), Go.bits .and .i64 ((rd_T38 l0_0 a1).f2) 65535, wrap64 (a1 + 1), 0)) else (if ((rd_T38 l0_0 a1).f0) = 1 then (rterm36.j2 D kj17 a1 (((rd_T38 l0_0 a1).f1).toList == ([46] : List UInt8)) l0_0 l0_1 a0_2 a0_3 a0_4 ((rd_T38 l0_0 a1).f0) ((rd_T38 l0_0 a1).f1) ((rd_T38 l0_0 a1).f2) ((rd_T38 l0_0 a1).f3)) else (rterm36.j2 D kj17 a1 false l0_0 l0_1 a0_2 a0_3 a0_4 ((rd_T38 l0_0 a1).f0) ((rd_T38 l0_0 a1).f1) ((rd_T38 l0_0 a1).f2) ((rd_T38 l0_0 a1).f3)))) else (none)) else (none)))))) = some (r1, r2, r3, r4, r5) := H
     have A23 := Aside0.mk A230
     clear A230
     by_cases c24 : t129 = true
     ·subst c24
      have H1 : ((rtermF D  l0_0 l0_1 a0_2 a0_3 a0_4 (wrap64 (a1 + 1)) (wrap64 (a2 + 1))).bind fun bt130 => (if bt130.2.2.2.2 = 0 then ((emulatorref26_Sub.f kj17 0 (⟨#[]⟩ : ByteArray) 0 bt130.1 bt130.2.1 bt130.2.2.1).bind fun bt136 => (some (bt136.1, bt136.2.1, bt136.2.2.1, bt130.2.2.2.1, bt136.2.2.2))) else (some (0, (⟨#[]⟩ : ByteArray), 0, 0, bt130.2.2.2.2)))) = some (r1, r2, r3, r4, r5) := by rw [if_pos rfl] at H; exact H
      clear H
      have H := H1
      clear H1
      replace H := Option.bind_eq_some_iff.mp H
      obtain ⟨⟨t130, t131, t132, t133, t134⟩, A250, H⟩ := H
      replace H : (if t134 = 0 then ((emulatorref26_Sub.f kj17 0 (⟨#[]⟩ : ByteArray) 0 t130 t131 t132).bind fun bt136 => (some (bt136.1, bt136.2.1, bt136.2.2.1, t133, bt136.2.2.2))) else (some (0, (⟨#[]⟩ : ByteArray), 0, 0, t134))) = some (r1, r2, r3, r4, r5) := H
      have A25 := Aside0.mk A250
      clear A250
      by_cases c26 : t134 = 0
      ·rw [if_pos c26] at H
       have c26b0 : (t134 == 0) = true := beq_iff_eq.mpr c26
       have c26b1 : (t134 != 0) = false := bne_eq_false_iff_eq.mpr c26
       clear c26
       replace H := Option.bind_eq_some_iff.mp H
       obtain ⟨⟨t136, t137, t138, t139⟩, A270, H⟩ := H
       replace H : (some (t136, t137, t138, t133, t139)) = some (r1, r2, r3, r4, r5) := H
       have A27 := Aside0.mk A270
       clear A270
       simp only [Option.some.injEq, Prod.mk.injEq] at H
       obtain ⟨rfl, rfl, rfl, rfl, rfl⟩ := H
       have hnb28 := NB125_126.out
       have hnc28 := NB126_125.out
       have hcz29_0 : wc.cell? ⟨gb125, 0, none⟩ = some (.slice A0_0 l0_0.length c0_0) := (blk_cell BK125.out 0).trans rfl
       have hcz29_1 : wc.cell? ⟨gb125, 1, none⟩ = some (.slice A0_1 l0_1.length c0_1) := (blk_cell BK125.out 1).trans rfl
       have hcz29_2 : wc.cell? ⟨gb125, 2, none⟩ = some (.int .i64 a0_2) := (blk_cell BK125.out 2).trans rfl
       have hcz29_3 : wc.cell? ⟨gb125, 3, none⟩ = some (.string a0_3) := (blk_cell BK125.out 3).trans rfl
       have hcz29_4 : wc.cell? ⟨gb125, 4, none⟩ = some (.int .i64 a0_4) := (blk_cell BK125.out 4).trans rfl
       have hfz29_0 := blk_frozen BK125.out 0
       have hfz29_1 := blk_frozen BK125.out 1
       have hfz29_2 := blk_frozen BK125.out 2
       have hfz29_3 := blk_frozen BK125.out 3
       have hfz29_4 := blk_frozen BK125.out 4
       go_wp2_with (first | ((with_reducible refine gate_callee (f := 50) rfl ?_); refine goesL_ (some 31) rfl rfl Try.func50 (by kernel_rfl) rfl #[.agg #[.slice A0_0 l0_0.length c0_0, .slice A0_1 l0_1.length c0_1, .int .i64 a0_2, .string a0_3, .int .i64 a0_4], .int .i64 a1, .string (⟨#[45]⟩ : ByteArray)] rfl (by (try simp only [List.map_toArray, List.map_cons, List.map_nil]); first | done | rfl | (simp only [List.length_drop, List.length_take]; rfl)) ?_; (with_reducible refine (emulatorref26_scope_is.calls _ _ l0_0 _ _ l0_1 a0_2 a0_3 a0_4 a1 (⟨#[45]⟩ : ByteArray) true _ ?side1 ?side2 ?side3 ?side4 A23.out).mono ?_); (case side1 => repeat (first | exact (Kd.C_below HR0_0.out HB.out)|(with_reducible refine Kd.C_alloc ?_ _)|(with_reducible refine Kd.C_drewN ?_ _)|(with_reducible refine Kd.C_drew ?_))); (case side2 => exact HC0_0.out); (case side3 => repeat (first | exact (Kd.C_below HR0_1.out HB.out)|(with_reducible refine Kd.C_alloc ?_ _)|(with_reducible refine Kd.C_drewN ?_ _)|(with_reducible refine Kd.C_drew ?_))); (case side4 => exact HC0_1.out); rintro e w30 ⟨rfl, hb⟩; refine ⟨_, rfl, ?_⟩; have n0_ := Aside0.mk (blk_below (g := gb125) (o := .cells #[.slice A0_0 l0_0.length c0_0, .slice A0_1 l0_1.length c0_1, .int .i64 a0_2, .string a0_3, .int .i64 a0_4] 58 (0, 0)) (by (with_reducible repeat(first|apply bN|apply bD)); exact BK125.out) hb); have n1_ := Aside0.mk (blk_below (g := gb126) (o := .cells #[.int .i64 x127000_17, .string x127001_17, .int .i64 x127002_17] 24 (0, 0)) (by (with_reducible repeat(first|apply bN|apply bD)); exact BK126.out) hb); have n2_ := Aside0.mk (below_step (by repeat (first|(with_reducible first | exact HB.out | apply below_alloc | apply pw_below_drewN | apply below_drew1 | refine below_set ?_ GE125.out | refine below_set ?_ GE126.out) | exact HB.out)) hb); clear BK125; clear BK126; clear HB; have BK125 := n0_; have BK126 := n1_; have HB := n2_; clear n0_ n1_ n2_; (try clear hb); (try clear hb2); (try clear hk); (try clear hi); have hcz31_0 : w30.cell? ⟨gb125, 0, none⟩ = some (.slice A0_0 l0_0.length c0_0) := (blk_cell BK125.out 0).trans rfl; have hcz31_1 : w30.cell? ⟨gb125, 1, none⟩ = some (.slice A0_1 l0_1.length c0_1) := (blk_cell BK125.out 1).trans rfl; have hcz31_2 : w30.cell? ⟨gb125, 2, none⟩ = some (.int .i64 a0_2) := (blk_cell BK125.out 2).trans rfl; have hcz31_3 : w30.cell? ⟨gb125, 3, none⟩ = some (.string a0_3) := (blk_cell BK125.out 3).trans rfl; have hcz31_4 : w30.cell? ⟨gb125, 4, none⟩ = some (.int .i64 a0_4) := (blk_cell BK125.out 4).trans rfl; have hfz31_0 := blk_frozen BK125.out 0; have hfz31_1 := blk_frozen BK125.out 1; have hfz31_2 := blk_frozen BK125.out 2; have hfz31_3 := blk_frozen BK125.out 3; have hfz31_4 := blk_frozen BK125.out 4) | ((with_reducible refine gate_callee (f := 36) rfl ?_); refine goesL_ (some 38) rfl rfl Try.func36 (by kernel_rfl) rfl #[.agg #[.slice A0_0 l0_0.length c0_0, .slice A0_1 l0_1.length c0_1, .int .i64 a0_2, .string a0_3, .int .i64 a0_4], .int .i64 (wrap64 (a1 + 1)), .int .i64 (wrap64 (a2 + 1))] rfl (by (try simp only [List.map_toArray, List.map_cons, List.map_nil]); first | done | rfl | (simp only [List.length_drop, List.length_take]; rfl)) ?_; (with_reducible refine (HT.out _ _ l0_0 _ _ l0_1 a0_2 a0_3 a0_4 (wrap64 (a1 + 1)) (wrap64 (a2 + 1)) t130 t131 t132 t133 t134 _ ?side1 ?side2 ?side3 ?side4 A25.out).mono ?_); (case side1 => repeat (first | exact (Kd.C_below HR0_0.out HB.out)|(with_reducible refine Kd.C_alloc ?_ _)|(with_reducible refine Kd.C_drewN ?_ _)|(with_reducible refine Kd.C_drew ?_))); (case side2 => exact HC0_0.out); (case side3 => repeat (first | exact (Kd.C_below HR0_1.out HB.out)|(with_reducible refine Kd.C_alloc ?_ _)|(with_reducible refine Kd.C_drewN ?_ _)|(with_reducible refine Kd.C_drew ?_))); (case side4 => exact HC0_1.out); rintro e w32 ⟨rfl, hb⟩; refine ⟨_, rfl, ?_⟩; have n0_ := Aside0.mk (blk_below (g := gb125) (o := .cells #[.slice A0_0 l0_0.length c0_0, .slice A0_1 l0_1.length c0_1, .int .i64 a0_2, .string a0_3, .int .i64 a0_4] 58 (0, 0)) (by (with_reducible repeat(first|apply bN|apply bD)); exact BK125.out) hb); have n1_ := Aside0.mk (blk_below (g := gb126) (o := .cells #[.int .i64 x127000_17, .string x127001_17, .int .i64 x127002_17] 24 (0, 0)) (by (with_reducible repeat(first|apply bN|apply bD)); exact BK126.out) hb); have n2_ := Aside0.mk (below_step (by repeat (first|(with_reducible first | exact HB.out | apply below_alloc | apply pw_below_drewN | apply below_drew1 | refine below_set ?_ GE125.out | refine below_set ?_ GE126.out) | exact HB.out)) hb); clear BK125; clear BK126; clear HB; have BK125 := n0_; have BK126 := n1_; have HB := n2_; clear n0_ n1_ n2_; (try clear hb); (try clear hb2); (try clear hk); (try clear hi)) | ((with_reducible refine gate_dst (N := 9) rfl ?_); refine box_event ?hg (N := 9) ?hd (cs := #[.int .i64 0, .string (⟨#[]⟩ : ByteArray), .int .i64 0]) (t := 24) ?hr ?_; (case hd => rfl); (case hg => rfl); (case hr => first | (go_simp; done) | (go_simp; rfl)); intro gb135 hg w33 hbox hb; have n0_ := Aside0.mk (blk_below (g := gb125) (o := .cells #[.slice A0_0 l0_0.length c0_0, .slice A0_1 l0_1.length c0_1, .int .i64 a0_2, .string a0_3, .int .i64 a0_4] 58 (0, 0)) (by (with_reducible repeat(first|apply bN|apply bD)); exact BK125.out) hb); have n1_ := Aside0.mk (blk_below (g := gb126) (o := .cells #[.int .i64 x127000_17, .string x127001_17, .int .i64 x127002_17] 24 (0, 0)) (by (with_reducible repeat(first|apply bN|apply bD)); exact BK126.out) hb); have n2_ := Aside0.mk (below_step (by repeat (first|(with_reducible first | exact HB.out | apply below_alloc | apply pw_below_drewN | apply below_drew1 | refine below_set ?_ GE125.out | refine below_set ?_ GE126.out) | exact HB.out)) hb); have n3_ := Aside0.mk (hbox); have n4_ := Aside0.mk ((by rw [hg]; exact (below_size (by repeat (first|(with_reducible first | exact HB.out | apply below_alloc | apply pw_below_drewN | apply below_drew1 | refine below_set ?_ GE125.out | refine below_set ?_ GE126.out) | exact HB.out))) : w.heap.size ≤ gb135)); have n5_ := n4_; have n6_ := Aside0.mk ((by rw [hg]; exact Nat.ne_of_lt (blk_lt (g := gb125) (o := .cells #[.slice A0_0 l0_0.length c0_0, .slice A0_1 l0_1.length c0_1, .int .i64 a0_2, .string a0_3, .int .i64 a0_4] 58 (0, 0)) (by (with_reducible repeat(first|apply bN|apply bD)); exact BK125.out)) : gb125 ≠ gb135)); have n7_ := Aside0.mk n6_.out.symm; have n8_ := Aside0.mk ((by rw [hg]; exact Nat.ne_of_lt (blk_lt (g := gb126) (o := .cells #[.int .i64 x127000_17, .string x127001_17, .int .i64 x127002_17] 24 (0, 0)) (by (with_reducible repeat(first|apply bN|apply bD)); exact BK126.out)) : gb126 ≠ gb135)); have n9_ := Aside0.mk n8_.out.symm; clear BK125; clear BK126; clear HB; have BK125 := n0_; have BK126 := n1_; have HB := n2_; have BK135 := n3_; have GW135 := n4_; have GE135 := n5_; have NB125_135 := n6_; have NB135_125 := n7_; have NB126_135 := n8_; have NB135_126 := n9_; clear n0_ n1_ n2_ n3_ n4_ n5_ n6_ n7_ n8_ n9_; clear hb hbox hg; have hnb34 := NB135_125.out; have hnc34 := NB125_135.out; have hnb35 := NB135_126.out; have hnc35 := NB126_135.out; have hcz36_0 : w33.cell? ⟨gb135, 0, none⟩ = some (.int .i64 0) := (blk_cell BK135.out 0).trans rfl; have hcz36_1 : w33.cell? ⟨gb135, 1, none⟩ = some (.string (⟨#[]⟩ : ByteArray)) := (blk_cell BK135.out 1).trans rfl; have hcz36_2 : w33.cell? ⟨gb135, 2, none⟩ = some (.int .i64 0) := (blk_cell BK135.out 2).trans rfl; have hfz36_0 := blk_frozen BK135.out 0; have hfz36_1 := blk_frozen BK135.out 1; have hfz36_2 := blk_frozen BK135.out 2) | ((with_reducible refine gate_callee (f := 22) rfl ?_); refine goesL_ (some 49) rfl rfl Try.func22 (by kernel_rfl) rfl #[.agg #[.int .i64 0, .string (⟨#[]⟩ : ByteArray), .int .i64 0], .agg #[.int .i64 t130, .string t131, .int .i64 t132]] rfl (by (try simp only [List.map_toArray, List.map_cons, List.map_nil]); first | done | rfl | (simp only [List.length_drop, List.length_take]; rfl)) ?_; (with_reducible refine (emulatorref26_Sub.calls kj17 0 (⟨#[]⟩ : ByteArray) 0 t130 t131 t132 t136 t137 t138 t139 _ A27.out).mono ?_); rintro e w37 ⟨rfl, hb⟩; refine ⟨_, rfl, ?_⟩; have n0_ := Aside0.mk (blk_below (g := gb125) (o := .cells #[.slice A0_0 l0_0.length c0_0, .slice A0_1 l0_1.length c0_1, .int .i64 a0_2, .string a0_3, .int .i64 a0_4] 58 (0, 0)) (by (with_reducible repeat(first|apply bN|apply bD)); refine blk_far ?_ NB125_135.out _; (with_reducible repeat(first|apply bN|apply bD)); refine blk_far ?_ NB125_135.out _; (with_reducible repeat(first|apply bN|apply bD)); refine blk_far ?_ NB125_135.out _; (with_reducible repeat(first|apply bN|apply bD)); exact BK125.out) hb); have n1_ := Aside0.mk (blk_below (g := gb126) (o := .cells #[.int .i64 x127000_17, .string x127001_17, .int .i64 x127002_17] 24 (0, 0)) (by (with_reducible repeat(first|apply bN|apply bD)); refine blk_far ?_ NB126_135.out _; (with_reducible repeat(first|apply bN|apply bD)); refine blk_far ?_ NB126_135.out _; (with_reducible repeat(first|apply bN|apply bD)); refine blk_far ?_ NB126_135.out _; (with_reducible repeat(first|apply bN|apply bD)); exact BK126.out) hb); have n2_ := Aside0.mk (blk_below (g := gb135) (o := .cells #[.int .i64 t130, .string t131, .int .i64 t132] 24 (0, 0)) (by (with_reducible repeat(first|apply bN|apply bD)); refine blk_put (cs := #[.int .i64 t130, .string t131, .int .i64 0]) ?_ 2 _ rfl; (with_reducible repeat(first|apply bN|apply bD)); refine blk_put (cs := #[.int .i64 t130, .string (⟨#[]⟩ : ByteArray), .int .i64 0]) ?_ 1 _ rfl; (with_reducible repeat(first|apply bN|apply bD)); refine blk_put (cs := #[.int .i64 0, .string (⟨#[]⟩ : ByteArray), .int .i64 0]) ?_ 0 _ rfl; (with_reducible repeat(first|apply bN|apply bD)); exact BK135.out) hb); have n3_ := Aside0.mk (below_step (by repeat (first|(with_reducible first | exact HB.out | apply below_alloc | apply pw_below_drewN | apply below_drew1 | refine below_set ?_ GE125.out | refine below_set ?_ GE126.out | refine below_set ?_ GE135.out) | exact HB.out)) hb); clear BK125; clear BK126; clear BK135; clear HB; have BK125 := n0_; have BK126 := n1_; have BK135 := n2_; have HB := n3_; clear n0_ n1_ n2_ n3_; (try clear hb); (try clear hb2); (try clear hk); (try clear hi)) | ((with_reducible refine gate_dst (N := 12) rfl ?_); refine box_event ?hg (N := 12) ?hd (cs := #[.int .i64 0, .string (⟨#[]⟩ : ByteArray), .int .i64 0]) (t := 24) ?hr ?_; (case hd => rfl); (case hg => rfl); (case hr => first | (go_simp; done) | (go_simp; rfl)); intro gb140 hg w38 hbox hb; have n0_ := Aside0.mk (blk_below (g := gb125) (o := .cells #[.slice A0_0 l0_0.length c0_0, .slice A0_1 l0_1.length c0_1, .int .i64 a0_2, .string a0_3, .int .i64 a0_4] 58 (0, 0)) (by (with_reducible repeat(first|apply bN|apply bD)); exact BK125.out) hb); have n1_ := Aside0.mk (blk_below (g := gb126) (o := .cells #[.int .i64 x127000_17, .string x127001_17, .int .i64 x127002_17] 24 (0, 0)) (by (with_reducible repeat(first|apply bN|apply bD)); exact BK126.out) hb); have n2_ := Aside0.mk (blk_below (g := gb135) (o := .cells #[.int .i64 t130, .string t131, .int .i64 t132] 24 (0, 0)) (by (with_reducible repeat(first|apply bN|apply bD)); exact BK135.out) hb); have n3_ := Aside0.mk (below_step (by repeat (first|(with_reducible first | exact HB.out | apply below_alloc | apply pw_below_drewN | apply below_drew1 | refine below_set ?_ GE125.out | refine below_set ?_ GE126.out | refine below_set ?_ GE135.out) | exact HB.out)) hb); have n4_ := Aside0.mk (hbox); have n5_ := Aside0.mk ((by rw [hg]; exact (below_size (by repeat (first|(with_reducible first | exact HB.out | apply below_alloc | apply pw_below_drewN | apply below_drew1 | refine below_set ?_ GE125.out | refine below_set ?_ GE126.out | refine below_set ?_ GE135.out) | exact HB.out))) : w.heap.size ≤ gb140)); have n6_ := n5_; have n7_ := Aside0.mk ((by rw [hg]; exact Nat.ne_of_lt (blk_lt (g := gb125) (o := .cells #[.slice A0_0 l0_0.length c0_0, .slice A0_1 l0_1.length c0_1, .int .i64 a0_2, .string a0_3, .int .i64 a0_4] 58 (0, 0)) (by (with_reducible repeat(first|apply bN|apply bD)); exact BK125.out)) : gb125 ≠ gb140)); have n8_ := Aside0.mk n7_.out.symm; have n9_ := Aside0.mk ((by rw [hg]; exact Nat.ne_of_lt (blk_lt (g := gb126) (o := .cells #[.int .i64 x127000_17, .string x127001_17, .int .i64 x127002_17] 24 (0, 0)) (by (with_reducible repeat(first|apply bN|apply bD)); exact BK126.out)) : gb126 ≠ gb140)); have n10_ := Aside0.mk n9_.out.symm; have n11_ := Aside0.mk ((by rw [hg]; exact Nat.ne_of_lt (blk_lt (g := gb135) (o := .cells #[.int .i64 t130, .string t131, .int .i64 t132] 24 (0, 0)) (by (with_reducible repeat(first|apply bN|apply bD)); exact BK135.out)) : gb135 ≠ gb140)); have n12_ := Aside0.mk n11_.out.symm; clear BK125; clear BK126; clear BK135; clear HB; have BK125 := n0_; have BK126 := n1_; have BK135 := n2_; have HB := n3_; have BK140 := n4_; have GW140 := n5_; have GE140 := n6_; have NB125_140 := n7_; have NB140_125 := n8_; have NB126_140 := n9_; have NB140_126 := n10_; have NB135_140 := n11_; have NB140_135 := n12_; clear n0_ n1_ n2_ n3_ n4_ n5_ n6_ n7_ n8_ n9_ n10_ n11_ n12_; clear hb hbox hg; have hnb39 := NB140_125.out; have hnc39 := NB125_140.out; have hnb40 := NB140_126.out; have hnc40 := NB126_140.out; have hnb41 := NB140_135.out; have hnc41 := NB135_140.out; have hcz42_0 : w38.cell? ⟨gb140, 0, none⟩ = some (.int .i64 0) := (blk_cell BK140.out 0).trans rfl; have hcz42_1 : w38.cell? ⟨gb140, 1, none⟩ = some (.string (⟨#[]⟩ : ByteArray)) := (blk_cell BK140.out 1).trans rfl; have hcz42_2 : w38.cell? ⟨gb140, 2, none⟩ = some (.int .i64 0) := (blk_cell BK140.out 2).trans rfl; have hfz42_0 := blk_frozen BK140.out 0; have hfz42_1 := blk_frozen BK140.out 1; have hfz42_2 := blk_frozen BK140.out 2; have hcz43_0 : w38.cell? ⟨gb126, 0, none⟩ = some (.int .i64 x127000_17) := (blk_cell BK126.out 0).trans rfl; have hcz43_1 : w38.cell? ⟨gb126, 1, none⟩ = some (.string x127001_17) := (blk_cell BK126.out 1).trans rfl; have hcz43_2 : w38.cell? ⟨gb126, 2, none⟩ = some (.int .i64 x127002_17) := (blk_cell BK126.out 2).trans rfl; have hfz43_0 := blk_frozen BK126.out 0; have hfz43_1 := blk_frozen BK126.out 1; have hfz43_2 := blk_frozen BK126.out 2))
       refine bodyPost_ret (results_ctt rfl _ _ gb126 24 #[.int .i64 t136, .string t137, .int .i64 t138] (0, 0) _ rfl (by (with_reducible repeat(first|apply bN|apply bD)); refine blk_put (cs := #[.int .i64 t136, .string t137, .int .i64 x127002_17]) ?_ 2 _ rfl; (with_reducible repeat(first|apply bN|apply bD)); refine blk_put (cs := #[.int .i64 t136, .string x127001_17, .int .i64 x127002_17]) ?_ 1 _ rfl; (with_reducible repeat(first|apply bN|apply bD)); refine blk_put (cs := #[.int .i64 x127000_17, .string x127001_17, .int .i64 x127002_17]) ?_ 0 _ rfl; (with_reducible repeat(first|apply bN|apply bD)); refine blk_far ?_ NB126_140.out _; (with_reducible repeat(first|apply bN|apply bD)); refine blk_far ?_ NB126_140.out _; (with_reducible repeat(first|apply bN|apply bD)); refine blk_far ?_ NB126_140.out _; (with_reducible repeat(first|apply bN|apply bD)); exact BK126.out) Try.underlying24 rfl (by kernel_rfl)) rfl ?_
       exact ⟨by first | rfl | (simp [errW_none, errW_some] <;> rfl) | (simp [*, errW_none, errW_some] <;> rfl), by repeat (first|(with_reducible first | exact HB.out | apply below_alloc | apply pw_below_drewN | apply below_drew1 | refine below_set ?_ GE125.out | refine below_set ?_ GE126.out | refine below_set ?_ GE135.out | refine below_set ?_ GE140.out) | exact HB.out)⟩
      ·rw [if_neg c26] at H
       have c26b0 : (t134 == 0) = false := beq_eq_false_iff_ne.mpr c26
       have c26b1 : (t134 != 0) = true := bne_iff_ne.mpr c26
       simp only [Option.some.injEq, Prod.mk.injEq] at H
       obtain ⟨rfl, rfl, rfl, rfl, rfl⟩ := H
       have hnb44 := NB125_126.out
       have hnc44 := NB126_125.out
       have hcz45_0 : wc.cell? ⟨gb125, 0, none⟩ = some (.slice A0_0 l0_0.length c0_0) := (blk_cell BK125.out 0).trans rfl
       have hcz45_1 : wc.cell? ⟨gb125, 1, none⟩ = some (.slice A0_1 l0_1.length c0_1) := (blk_cell BK125.out 1).trans rfl
       have hcz45_2 : wc.cell? ⟨gb125, 2, none⟩ = some (.int .i64 a0_2) := (blk_cell BK125.out 2).trans rfl
       have hcz45_3 : wc.cell? ⟨gb125, 3, none⟩ = some (.string a0_3) := (blk_cell BK125.out 3).trans rfl
       have hcz45_4 : wc.cell? ⟨gb125, 4, none⟩ = some (.int .i64 a0_4) := (blk_cell BK125.out 4).trans rfl
       have hfz45_0 := blk_frozen BK125.out 0
       have hfz45_1 := blk_frozen BK125.out 1
       have hfz45_2 := blk_frozen BK125.out 2
       have hfz45_3 := blk_frozen BK125.out 3
       have hfz45_4 := blk_frozen BK125.out 4
       go_wp2_with (first | ((with_reducible refine gate_callee (f := 50) rfl ?_); refine goesL_ (some 31) rfl rfl Try.func50 (by kernel_rfl) rfl #[.agg #[.slice A0_0 l0_0.length c0_0, .slice A0_1 l0_1.length c0_1, .int .i64 a0_2, .string a0_3, .int .i64 a0_4], .int .i64 a1, .string (⟨#[45]⟩ : ByteArray)] rfl (by (try simp only [List.map_toArray, List.map_cons, List.map_nil]); first | done | rfl | (simp only [List.length_drop, List.length_take]; rfl)) ?_; (with_reducible refine (emulatorref26_scope_is.calls _ _ l0_0 _ _ l0_1 a0_2 a0_3 a0_4 a1 (⟨#[45]⟩ : ByteArray) true _ ?side1 ?side2 ?side3 ?side4 A23.out).mono ?_); (case side1 => repeat (first | exact (Kd.C_below HR0_0.out HB.out)|(with_reducible refine Kd.C_alloc ?_ _)|(with_reducible refine Kd.C_drewN ?_ _)|(with_reducible refine Kd.C_drew ?_))); (case side2 => exact HC0_0.out); (case side3 => repeat (first | exact (Kd.C_below HR0_1.out HB.out)|(with_reducible refine Kd.C_alloc ?_ _)|(with_reducible refine Kd.C_drewN ?_ _)|(with_reducible refine Kd.C_drew ?_))); (case side4 => exact HC0_1.out); rintro e w46 ⟨rfl, hb⟩; refine ⟨_, rfl, ?_⟩; have n0_ := Aside0.mk (blk_below (g := gb125) (o := .cells #[.slice A0_0 l0_0.length c0_0, .slice A0_1 l0_1.length c0_1, .int .i64 a0_2, .string a0_3, .int .i64 a0_4] 58 (0, 0)) (by (with_reducible repeat(first|apply bN|apply bD)); exact BK125.out) hb); have n1_ := Aside0.mk (blk_below (g := gb126) (o := .cells #[.int .i64 x127000_17, .string x127001_17, .int .i64 x127002_17] 24 (0, 0)) (by (with_reducible repeat(first|apply bN|apply bD)); exact BK126.out) hb); have n2_ := Aside0.mk (below_step (by repeat (first|(with_reducible first | exact HB.out | apply below_alloc | apply pw_below_drewN | apply below_drew1 | refine below_set ?_ GE125.out | refine below_set ?_ GE126.out) | exact HB.out)) hb); clear BK125; clear BK126; clear HB; have BK125 := n0_; have BK126 := n1_; have HB := n2_; clear n0_ n1_ n2_; (try clear hb); (try clear hb2); (try clear hk); (try clear hi); have hcz47_0 : w46.cell? ⟨gb125, 0, none⟩ = some (.slice A0_0 l0_0.length c0_0) := (blk_cell BK125.out 0).trans rfl; have hcz47_1 : w46.cell? ⟨gb125, 1, none⟩ = some (.slice A0_1 l0_1.length c0_1) := (blk_cell BK125.out 1).trans rfl; have hcz47_2 : w46.cell? ⟨gb125, 2, none⟩ = some (.int .i64 a0_2) := (blk_cell BK125.out 2).trans rfl; have hcz47_3 : w46.cell? ⟨gb125, 3, none⟩ = some (.string a0_3) := (blk_cell BK125.out 3).trans rfl; have hcz47_4 : w46.cell? ⟨gb125, 4, none⟩ = some (.int .i64 a0_4) := (blk_cell BK125.out 4).trans rfl; have hfz47_0 := blk_frozen BK125.out 0; have hfz47_1 := blk_frozen BK125.out 1; have hfz47_2 := blk_frozen BK125.out 2; have hfz47_3 := blk_frozen BK125.out 3; have hfz47_4 := blk_frozen BK125.out 4) | ((with_reducible refine gate_callee (f := 36) rfl ?_); refine goesL_ (some 38) rfl rfl Try.func36 (by kernel_rfl) rfl #[.agg #[.slice A0_0 l0_0.length c0_0, .slice A0_1 l0_1.length c0_1, .int .i64 a0_2, .string a0_3, .int .i64 a0_4], .int .i64 (wrap64 (a1 + 1)), .int .i64 (wrap64 (a2 + 1))] rfl (by (try simp only [List.map_toArray, List.map_cons, List.map_nil]); first | done | rfl | (simp only [List.length_drop, List.length_take]; rfl)) ?_; (with_reducible refine (HT.out _ _ l0_0 _ _ l0_1 a0_2 a0_3 a0_4 (wrap64 (a1 + 1)) (wrap64 (a2 + 1)) t130 t131 t132 t133 t134 _ ?side1 ?side2 ?side3 ?side4 A25.out).mono ?_); (case side1 => repeat (first | exact (Kd.C_below HR0_0.out HB.out)|(with_reducible refine Kd.C_alloc ?_ _)|(with_reducible refine Kd.C_drewN ?_ _)|(with_reducible refine Kd.C_drew ?_))); (case side2 => exact HC0_0.out); (case side3 => repeat (first | exact (Kd.C_below HR0_1.out HB.out)|(with_reducible refine Kd.C_alloc ?_ _)|(with_reducible refine Kd.C_drewN ?_ _)|(with_reducible refine Kd.C_drew ?_))); (case side4 => exact HC0_1.out); rintro e w48 ⟨rfl, hb⟩; refine ⟨_, rfl, ?_⟩; have n0_ := Aside0.mk (blk_below (g := gb125) (o := .cells #[.slice A0_0 l0_0.length c0_0, .slice A0_1 l0_1.length c0_1, .int .i64 a0_2, .string a0_3, .int .i64 a0_4] 58 (0, 0)) (by (with_reducible repeat(first|apply bN|apply bD)); exact BK125.out) hb); have n1_ := Aside0.mk (blk_below (g := gb126) (o := .cells #[.int .i64 x127000_17, .string x127001_17, .int .i64 x127002_17] 24 (0, 0)) (by (with_reducible repeat(first|apply bN|apply bD)); exact BK126.out) hb); have n2_ := Aside0.mk (below_step (by repeat (first|(with_reducible first | exact HB.out | apply below_alloc | apply pw_below_drewN | apply below_drew1 | refine below_set ?_ GE125.out | refine below_set ?_ GE126.out) | exact HB.out)) hb); clear BK125; clear BK126; clear HB; have BK125 := n0_; have BK126 := n1_; have HB := n2_; clear n0_ n1_ n2_; (try clear hb); (try clear hb2); (try clear hk); (try clear hi)) | ((with_reducible refine gate_dst (N := 9) rfl ?_); refine box_event ?hg (N := 9) ?hd (cs := #[.int .i64 0, .string (⟨#[]⟩ : ByteArray), .int .i64 0]) (t := 24) ?hr ?_; (case hd => rfl); (case hg => rfl); (case hr => first | (go_simp; done) | (go_simp; rfl)); intro gb135 hg w49 hbox hb; have n0_ := Aside0.mk (blk_below (g := gb125) (o := .cells #[.slice A0_0 l0_0.length c0_0, .slice A0_1 l0_1.length c0_1, .int .i64 a0_2, .string a0_3, .int .i64 a0_4] 58 (0, 0)) (by (with_reducible repeat(first|apply bN|apply bD)); exact BK125.out) hb); have n1_ := Aside0.mk (blk_below (g := gb126) (o := .cells #[.int .i64 x127000_17, .string x127001_17, .int .i64 x127002_17] 24 (0, 0)) (by (with_reducible repeat(first|apply bN|apply bD)); exact BK126.out) hb); have n2_ := Aside0.mk (below_step (by repeat (first|(with_reducible first | exact HB.out | apply below_alloc | apply pw_below_drewN | apply below_drew1 | refine below_set ?_ GE125.out | refine below_set ?_ GE126.out) | exact HB.out)) hb); have n3_ := Aside0.mk (hbox); have n4_ := Aside0.mk ((by rw [hg]; exact (below_size (by repeat (first|(with_reducible first | exact HB.out | apply below_alloc | apply pw_below_drewN | apply below_drew1 | refine below_set ?_ GE125.out | refine below_set ?_ GE126.out) | exact HB.out))) : w.heap.size ≤ gb135)); have n5_ := n4_; have n6_ := Aside0.mk ((by rw [hg]; exact Nat.ne_of_lt (blk_lt (g := gb125) (o := .cells #[.slice A0_0 l0_0.length c0_0, .slice A0_1 l0_1.length c0_1, .int .i64 a0_2, .string a0_3, .int .i64 a0_4] 58 (0, 0)) (by (with_reducible repeat(first|apply bN|apply bD)); exact BK125.out)) : gb125 ≠ gb135)); have n7_ := Aside0.mk n6_.out.symm; have n8_ := Aside0.mk ((by rw [hg]; exact Nat.ne_of_lt (blk_lt (g := gb126) (o := .cells #[.int .i64 x127000_17, .string x127001_17, .int .i64 x127002_17] 24 (0, 0)) (by (with_reducible repeat(first|apply bN|apply bD)); exact BK126.out)) : gb126 ≠ gb135)); have n9_ := Aside0.mk n8_.out.symm; clear BK125; clear BK126; clear HB; have BK125 := n0_; have BK126 := n1_; have HB := n2_; have BK135 := n3_; have GW135 := n4_; have GE135 := n5_; have NB125_135 := n6_; have NB135_125 := n7_; have NB126_135 := n8_; have NB135_126 := n9_; clear n0_ n1_ n2_ n3_ n4_ n5_ n6_ n7_ n8_ n9_; clear hb hbox hg; have hnb50 := NB135_125.out; have hnc50 := NB125_135.out; have hnb51 := NB135_126.out; have hnc51 := NB126_135.out; have hcz52_0 : w49.cell? ⟨gb135, 0, none⟩ = some (.int .i64 0) := (blk_cell BK135.out 0).trans rfl; have hcz52_1 : w49.cell? ⟨gb135, 1, none⟩ = some (.string (⟨#[]⟩ : ByteArray)) := (blk_cell BK135.out 1).trans rfl; have hcz52_2 : w49.cell? ⟨gb135, 2, none⟩ = some (.int .i64 0) := (blk_cell BK135.out 2).trans rfl; have hfz52_0 := blk_frozen BK135.out 0; have hfz52_1 := blk_frozen BK135.out 1; have hfz52_2 := blk_frozen BK135.out 2; have hcz53_0 : w49.cell? ⟨gb126, 0, none⟩ = some (.int .i64 x127000_17) := (blk_cell BK126.out 0).trans rfl; have hcz53_1 : w49.cell? ⟨gb126, 1, none⟩ = some (.string x127001_17) := (blk_cell BK126.out 1).trans rfl; have hcz53_2 : w49.cell? ⟨gb126, 2, none⟩ = some (.int .i64 x127002_17) := (blk_cell BK126.out 2).trans rfl; have hfz53_0 := blk_frozen BK126.out 0; have hfz53_1 := blk_frozen BK126.out 1; have hfz53_2 := blk_frozen BK126.out 2))
       refine bodyPost_ret (results_ctt rfl _ _ gb126 24 #[.int .i64 0, .string (⟨#[]⟩ : ByteArray), .int .i64 0] (0, 0) _ rfl (by (with_reducible repeat(first|apply bN|apply bD)); refine blk_put (cs := #[.int .i64 0, .string (⟨#[]⟩ : ByteArray), .int .i64 x127002_17]) ?_ 2 _ rfl; (with_reducible repeat(first|apply bN|apply bD)); refine blk_put (cs := #[.int .i64 0, .string x127001_17, .int .i64 x127002_17]) ?_ 1 _ rfl; (with_reducible repeat(first|apply bN|apply bD)); refine blk_put (cs := #[.int .i64 x127000_17, .string x127001_17, .int .i64 x127002_17]) ?_ 0 _ rfl; (with_reducible repeat(first|apply bN|apply bD)); refine blk_far ?_ NB126_135.out _; (with_reducible repeat(first|apply bN|apply bD)); refine blk_far ?_ NB126_135.out _; (with_reducible repeat(first|apply bN|apply bD)); refine blk_far ?_ NB126_135.out _; (with_reducible repeat(first|apply bN|apply bD)); exact BK126.out) Try.underlying24 rfl (by kernel_rfl)) rfl ?_
       exact ⟨by first | rfl | (simp [errW_none, errW_some] <;> rfl) | (simp [*, errW_none, errW_some] <;> rfl), by repeat (first|(with_reducible first | exact HB.out | apply below_alloc | apply pw_below_drewN | apply below_drew1 | refine below_set ?_ GE125.out | refine below_set ?_ GE126.out | refine below_set ?_ GE135.out) | exact HB.out)⟩
     ·replace c24 := Bool.eq_false_iff.mpr c24
      subst c24
      have H1 : ((emulatorref26_scope_is.f l0_0 l0_1 a0_2 a0_3 a0_4 a1 (⟨#[40]⟩ : ByteArray)).bind fun t141 => (if t141 = true then ((rexpF D  l0_0 l0_1 a0_2 a0_3 a0_4 (wrap64 (a1 + 1)) (wrap64 (a2 + 1))).bind fun bt142 => (if bt142.2.2.2.2 = 0 then ((emulatorref26_scope_is.f l0_0 l0_1 a0_2 a0_3 a0_4 bt142.2.2.2.1 (⟨#[41]⟩ : ByteArray)).bind fun t148 => (if t148 = true then (some (bt142.1, bt142.2.1, bt142.2.2.1, wrap64 (bt142.2.2.2.1 + 1), 0)) else (some (0, (⟨#[]⟩ : ByteArray), 0, 0, 3)))) else (some (0, (⟨#[]⟩ : ByteArray), 0, 0, bt142.2.2.2.2)))) else (if a1 ≥ (l0_0.length : Int) then (some (0, (⟨#[]⟩ : ByteArray), 0, 0, 3)) else (if 0 ≤ a1 then (if a1 < (l0_0.length : Int) then (if ((rd_T38 l0_0 a1).f0) = 2 then (some (0, (⟨#[]⟩ : ByteArray), Go.bits .and .i64 ((rd_T38 l0_0 a1).f2) 65535, wrap64 (a1 + 1), 0)) else (if ((rd_T38 l0_0 a1).f0) = 1 then (rterm36.j2 D kj17 a1 (((rd_T38 l0_0 a1).f1).toList == ([46] : List UInt8)) l0_0 l0_1 a0_2 a0_3 a0_4 ((rd_T38 l0_0 a1).f0) ((rd_T38 l0_0 a1).f1) ((rd_T38 l0_0 a1).f2) ((rd_T38 l0_0 a1).f3)) else (rterm36.j2 D kj17 a1 false l0_0 l0_1 a0_2 a0_3 a0_4 ((rd_T38 l0_0 a1).f0) ((rd_T38 l0_0 a1).f1) ((rd_T38 l0_0 a1).f2) ((rd_T38 l0_0 a1).f3)))) else (none)) else (none))))) = some (r1, r2, r3, r4, r5) := by rw [if_neg (show ¬ (false = true) by decide)] at H; exact H
      clear H
      have H := H1
      clear H1
      replace H := Option.bind_eq_some_iff.mp H
      obtain ⟨t141, A540, H⟩ := H
      replace H : (if t141 = true then ((rexpF D  l0_0 l0_1 a0_2 a0_3 a0_4 (wrap64 (a1 + 1)) (wrap64 (a2 + 1))).bind fun bt142 => (if bt142.2.2.2.2 = 0 then ((emulatorref26_scope_is.f l0_0 l0_1 a0_2 a0_3 a0_4 bt142.2.2.2.1 (⟨#[41]⟩ : ByteArray)).bind fun t148 => (if t148 = true then (some (bt142.1, bt142.2.1, bt142.2.2.1, wrap64 (bt142.2.2.2.1 + 1), 0)) else (some (0, (⟨#[]⟩ : ByteArray), 0, 0, 3)))) else (some (0, (⟨#[]⟩ : ByteArray), 0, 0, bt142.2.2.2.2)))) else (if a1 ≥ (l0_0.length : Int) then (some (0, (⟨#[]⟩ : ByteArray), 0, 0, 3)) else (if 0 ≤ a1 then (if a1 < (l0_0.length : Int) then (if ((rd_T38 l0_0 a1).f0) = 2 then (some (0, (⟨#[]⟩ : ByteArray), Go.bits .and .i64 ((rd_T38 l0_0 a1).f2) 65535, wrap64 (a1 + 1), 0)) else (if ((rd_T38 l0_0 a1).f0) = 1 then (rterm36.j2 D kj17 a1 (((rd_T38 l0_0 a1).f1).toList == ([46] : List UInt8)) l0_0 l0_1 a0_2 a0_3 a0_4 ((rd_T38 l0_0 a1).f0) ((rd_T38 l0_0 a1).f1) ((rd_T38 l0_0 a1).f2) ((rd_T38 l0_0 a1).f3)) else (rterm36.j2 D kj17 a1 false l0_0 l0_1 a0_2 a0_3 a0_4 ((rd_T38 l0_0 a1).f0) ((rd_T38 l0_0 a1).f1) ((rd_T38 l0_0 a1).f2) ((rd_T38 l0_0 a1).f3)))) else (none)) else (none)))) = some (r1, r2, r3, r4, r5) := H
      have A54 := Aside0.mk A540
      clear A540
      by_cases c55 : t141 = true
      ·subst c55
       have H1 : ((rexpF D  l0_0 l0_1 a0_2 a0_3 a0_4 (wrap64 (a1 + 1)) (wrap64 (a2 + 1))).bind fun bt142 => (if bt142.2.2.2.2 = 0 then ((emulatorref26_scope_is.f l0_0 l0_1 a0_2 a0_3 a0_4 bt142.2.2.2.1 (⟨#[41]⟩ : ByteArray)).bind fun t148 => (if t148 = true then (some (bt142.1, bt142.2.1, bt142.2.2.1, wrap64 (bt142.2.2.2.1 + 1), 0)) else (some (0, (⟨#[]⟩ : ByteArray), 0, 0, 3)))) else (some (0, (⟨#[]⟩ : ByteArray), 0, 0, bt142.2.2.2.2)))) = some (r1, r2, r3, r4, r5) := by rw [if_pos rfl] at H; exact H
       clear H
       have H := H1
       clear H1
       replace H := Option.bind_eq_some_iff.mp H
       obtain ⟨⟨t142, t143, t144, t145, t146⟩, A560, H⟩ := H
       replace H : (if t146 = 0 then ((emulatorref26_scope_is.f l0_0 l0_1 a0_2 a0_3 a0_4 t145 (⟨#[41]⟩ : ByteArray)).bind fun t148 => (if t148 = true then (some (t142, t143, t144, wrap64 (t145 + 1), 0)) else (some (0, (⟨#[]⟩ : ByteArray), 0, 0, 3)))) else (some (0, (⟨#[]⟩ : ByteArray), 0, 0, t146))) = some (r1, r2, r3, r4, r5) := H
       have A56 := Aside0.mk A560
       clear A560
       by_cases c57 : t146 = 0
       ·rw [if_pos c57] at H
        have c57b0 : (t146 == 0) = true := beq_iff_eq.mpr c57
        have c57b1 : (t146 != 0) = false := bne_eq_false_iff_eq.mpr c57
        clear c57
        replace H := Option.bind_eq_some_iff.mp H
        obtain ⟨t148, A580, H⟩ := H
        replace H : (if t148 = true then (some (t142, t143, t144, wrap64 (t145 + 1), 0)) else (some (0, (⟨#[]⟩ : ByteArray), 0, 0, 3))) = some (r1, r2, r3, r4, r5) := H
        have A58 := Aside0.mk A580
        clear A580
        by_cases c59 : t148 = true
        ·subst c59
         have H1 : (some (t142, t143, t144, wrap64 (t145 + 1), 0)) = some (r1, r2, r3, r4, r5) := by rw [if_pos rfl] at H; exact H
         clear H
         have H := H1
         clear H1
         simp only [Option.some.injEq, Prod.mk.injEq] at H
         obtain ⟨rfl, rfl, rfl, rfl, rfl⟩ := H
         have hnb60 := NB125_126.out
         have hnc60 := NB126_125.out
         have hcz61_0 : wc.cell? ⟨gb125, 0, none⟩ = some (.slice A0_0 l0_0.length c0_0) := (blk_cell BK125.out 0).trans rfl
         have hcz61_1 : wc.cell? ⟨gb125, 1, none⟩ = some (.slice A0_1 l0_1.length c0_1) := (blk_cell BK125.out 1).trans rfl
         have hcz61_2 : wc.cell? ⟨gb125, 2, none⟩ = some (.int .i64 a0_2) := (blk_cell BK125.out 2).trans rfl
         have hcz61_3 : wc.cell? ⟨gb125, 3, none⟩ = some (.string a0_3) := (blk_cell BK125.out 3).trans rfl
         have hcz61_4 : wc.cell? ⟨gb125, 4, none⟩ = some (.int .i64 a0_4) := (blk_cell BK125.out 4).trans rfl
         have hfz61_0 := blk_frozen BK125.out 0
         have hfz61_1 := blk_frozen BK125.out 1
         have hfz61_2 := blk_frozen BK125.out 2
         have hfz61_3 := blk_frozen BK125.out 3
         have hfz61_4 := blk_frozen BK125.out 4
         go_wp2_with (first | ((with_reducible refine gate_callee (f := 50) rfl ?_); refine goesL_ (some 31) rfl rfl Try.func50 (by kernel_rfl) rfl #[.agg #[.slice A0_0 l0_0.length c0_0, .slice A0_1 l0_1.length c0_1, .int .i64 a0_2, .string a0_3, .int .i64 a0_4], .int .i64 a1, .string (⟨#[45]⟩ : ByteArray)] rfl (by (try simp only [List.map_toArray, List.map_cons, List.map_nil]); first | done | rfl | (simp only [List.length_drop, List.length_take]; rfl)) ?_; (with_reducible refine (emulatorref26_scope_is.calls _ _ l0_0 _ _ l0_1 a0_2 a0_3 a0_4 a1 (⟨#[45]⟩ : ByteArray) false _ ?side1 ?side2 ?side3 ?side4 A23.out).mono ?_); (case side1 => repeat (first | exact (Kd.C_below HR0_0.out HB.out)|(with_reducible refine Kd.C_alloc ?_ _)|(with_reducible refine Kd.C_drewN ?_ _)|(with_reducible refine Kd.C_drew ?_))); (case side2 => exact HC0_0.out); (case side3 => repeat (first | exact (Kd.C_below HR0_1.out HB.out)|(with_reducible refine Kd.C_alloc ?_ _)|(with_reducible refine Kd.C_drewN ?_ _)|(with_reducible refine Kd.C_drew ?_))); (case side4 => exact HC0_1.out); rintro e w62 ⟨rfl, hb⟩; refine ⟨_, rfl, ?_⟩; have n0_ := Aside0.mk (blk_below (g := gb125) (o := .cells #[.slice A0_0 l0_0.length c0_0, .slice A0_1 l0_1.length c0_1, .int .i64 a0_2, .string a0_3, .int .i64 a0_4] 58 (0, 0)) (by (with_reducible repeat(first|apply bN|apply bD)); exact BK125.out) hb); have n1_ := Aside0.mk (blk_below (g := gb126) (o := .cells #[.int .i64 x127000_17, .string x127001_17, .int .i64 x127002_17] 24 (0, 0)) (by (with_reducible repeat(first|apply bN|apply bD)); exact BK126.out) hb); have n2_ := Aside0.mk (below_step (by repeat (first|(with_reducible first | exact HB.out | apply below_alloc | apply pw_below_drewN | apply below_drew1 | refine below_set ?_ GE125.out | refine below_set ?_ GE126.out) | exact HB.out)) hb); clear BK125; clear BK126; clear HB; have BK125 := n0_; have BK126 := n1_; have HB := n2_; clear n0_ n1_ n2_; (try clear hb); (try clear hb2); (try clear hk); (try clear hi); have hcz63_0 : w62.cell? ⟨gb125, 0, none⟩ = some (.slice A0_0 l0_0.length c0_0) := (blk_cell BK125.out 0).trans rfl; have hcz63_1 : w62.cell? ⟨gb125, 1, none⟩ = some (.slice A0_1 l0_1.length c0_1) := (blk_cell BK125.out 1).trans rfl; have hcz63_2 : w62.cell? ⟨gb125, 2, none⟩ = some (.int .i64 a0_2) := (blk_cell BK125.out 2).trans rfl; have hcz63_3 : w62.cell? ⟨gb125, 3, none⟩ = some (.string a0_3) := (blk_cell BK125.out 3).trans rfl; have hcz63_4 : w62.cell? ⟨gb125, 4, none⟩ = some (.int .i64 a0_4) := (blk_cell BK125.out 4).trans rfl; have hfz63_0 := blk_frozen BK125.out 0; have hfz63_1 := blk_frozen BK125.out 1; have hfz63_2 := blk_frozen BK125.out 2; have hfz63_3 := blk_frozen BK125.out 3; have hfz63_4 := blk_frozen BK125.out 4) | ((with_reducible refine gate_callee (f := 50) rfl ?_); refine goesL_ (some 57) rfl rfl Try.func50 (by kernel_rfl) rfl #[.agg #[.slice A0_0 l0_0.length c0_0, .slice A0_1 l0_1.length c0_1, .int .i64 a0_2, .string a0_3, .int .i64 a0_4], .int .i64 a1, .string (⟨#[40]⟩ : ByteArray)] rfl (by (try simp only [List.map_toArray, List.map_cons, List.map_nil]); first | done | rfl | (simp only [List.length_drop, List.length_take]; rfl)) ?_; (with_reducible refine (emulatorref26_scope_is.calls _ _ l0_0 _ _ l0_1 a0_2 a0_3 a0_4 a1 (⟨#[40]⟩ : ByteArray) true _ ?side1 ?side2 ?side3 ?side4 A54.out).mono ?_); (case side1 => repeat (first | exact (Kd.C_below HR0_0.out HB.out)|(with_reducible refine Kd.C_alloc ?_ _)|(with_reducible refine Kd.C_drewN ?_ _)|(with_reducible refine Kd.C_drew ?_))); (case side2 => exact HC0_0.out); (case side3 => repeat (first | exact (Kd.C_below HR0_1.out HB.out)|(with_reducible refine Kd.C_alloc ?_ _)|(with_reducible refine Kd.C_drewN ?_ _)|(with_reducible refine Kd.C_drew ?_))); (case side4 => exact HC0_1.out); rintro e w64 ⟨rfl, hb⟩; refine ⟨_, rfl, ?_⟩; have n0_ := Aside0.mk (blk_below (g := gb125) (o := .cells #[.slice A0_0 l0_0.length c0_0, .slice A0_1 l0_1.length c0_1, .int .i64 a0_2, .string a0_3, .int .i64 a0_4] 58 (0, 0)) (by (with_reducible repeat(first|apply bN|apply bD)); exact BK125.out) hb); have n1_ := Aside0.mk (blk_below (g := gb126) (o := .cells #[.int .i64 x127000_17, .string x127001_17, .int .i64 x127002_17] 24 (0, 0)) (by (with_reducible repeat(first|apply bN|apply bD)); exact BK126.out) hb); have n2_ := Aside0.mk (below_step (by repeat (first|(with_reducible first | exact HB.out | apply below_alloc | apply pw_below_drewN | apply below_drew1 | refine below_set ?_ GE125.out | refine below_set ?_ GE126.out) | exact HB.out)) hb); clear BK125; clear BK126; clear HB; have BK125 := n0_; have BK126 := n1_; have HB := n2_; clear n0_ n1_ n2_; (try clear hb); (try clear hb2); (try clear hk); (try clear hi); have hcz65_0 : w64.cell? ⟨gb125, 0, none⟩ = some (.slice A0_0 l0_0.length c0_0) := (blk_cell BK125.out 0).trans rfl; have hcz65_1 : w64.cell? ⟨gb125, 1, none⟩ = some (.slice A0_1 l0_1.length c0_1) := (blk_cell BK125.out 1).trans rfl; have hcz65_2 : w64.cell? ⟨gb125, 2, none⟩ = some (.int .i64 a0_2) := (blk_cell BK125.out 2).trans rfl; have hcz65_3 : w64.cell? ⟨gb125, 3, none⟩ = some (.string a0_3) := (blk_cell BK125.out 3).trans rfl; have hcz65_4 : w64.cell? ⟨gb125, 4, none⟩ = some (.int .i64 a0_4) := (blk_cell BK125.out 4).trans rfl; have hfz65_0 := blk_frozen BK125.out 0; have hfz65_1 := blk_frozen BK125.out 1; have hfz65_2 := blk_frozen BK125.out 2; have hfz65_3 := blk_frozen BK125.out 3; have hfz65_4 := blk_frozen BK125.out 4) | ((with_reducible refine gate_callee (f := 27) rfl ?_); refine goesL_ (some 64) rfl rfl Try.func27 (by kernel_rfl) rfl #[.agg #[.slice A0_0 l0_0.length c0_0, .slice A0_1 l0_1.length c0_1, .int .i64 a0_2, .string a0_3, .int .i64 a0_4], .int .i64 (wrap64 (a1 + 1)), .int .i64 (wrap64 (a2 + 1))] rfl (by (try simp only [List.map_toArray, List.map_cons, List.map_nil]); first | done | rfl | (simp only [List.length_drop, List.length_take]; rfl)) ?_; (with_reducible refine (HE.out _ _ l0_0 _ _ l0_1 a0_2 a0_3 a0_4 (wrap64 (a1 + 1)) (wrap64 (a2 + 1)) t142 t143 t144 t145 t146 _ ?side1 ?side2 ?side3 ?side4 A56.out).mono ?_); (case side1 => repeat (first | exact (Kd.C_below HR0_0.out HB.out)|(with_reducible refine Kd.C_alloc ?_ _)|(with_reducible refine Kd.C_drewN ?_ _)|(with_reducible refine Kd.C_drew ?_))); (case side2 => exact HC0_0.out); (case side3 => repeat (first | exact (Kd.C_below HR0_1.out HB.out)|(with_reducible refine Kd.C_alloc ?_ _)|(with_reducible refine Kd.C_drewN ?_ _)|(with_reducible refine Kd.C_drew ?_))); (case side4 => exact HC0_1.out); rintro e w66 ⟨rfl, hb⟩; refine ⟨_, rfl, ?_⟩; have n0_ := Aside0.mk (blk_below (g := gb125) (o := .cells #[.slice A0_0 l0_0.length c0_0, .slice A0_1 l0_1.length c0_1, .int .i64 a0_2, .string a0_3, .int .i64 a0_4] 58 (0, 0)) (by (with_reducible repeat(first|apply bN|apply bD)); exact BK125.out) hb); have n1_ := Aside0.mk (blk_below (g := gb126) (o := .cells #[.int .i64 x127000_17, .string x127001_17, .int .i64 x127002_17] 24 (0, 0)) (by (with_reducible repeat(first|apply bN|apply bD)); exact BK126.out) hb); have n2_ := Aside0.mk (below_step (by repeat (first|(with_reducible first | exact HB.out | apply below_alloc | apply pw_below_drewN | apply below_drew1 | refine below_set ?_ GE125.out | refine below_set ?_ GE126.out) | exact HB.out)) hb); clear BK125; clear BK126; clear HB; have BK125 := n0_; have BK126 := n1_; have HB := n2_; clear n0_ n1_ n2_; (try clear hb); (try clear hb2); (try clear hk); (try clear hi)) | ((with_reducible refine gate_dst (N := 14) rfl ?_); refine box_event ?hg (N := 14) ?hd (cs := #[.int .i64 0, .string (⟨#[]⟩ : ByteArray), .int .i64 0]) (t := 24) ?hr ?_; (case hd => rfl); (case hg => rfl); (case hr => first | (go_simp; done) | (go_simp; rfl)); intro gb147 hg w67 hbox hb; have n0_ := Aside0.mk (blk_below (g := gb125) (o := .cells #[.slice A0_0 l0_0.length c0_0, .slice A0_1 l0_1.length c0_1, .int .i64 a0_2, .string a0_3, .int .i64 a0_4] 58 (0, 0)) (by (with_reducible repeat(first|apply bN|apply bD)); exact BK125.out) hb); have n1_ := Aside0.mk (blk_below (g := gb126) (o := .cells #[.int .i64 x127000_17, .string x127001_17, .int .i64 x127002_17] 24 (0, 0)) (by (with_reducible repeat(first|apply bN|apply bD)); exact BK126.out) hb); have n2_ := Aside0.mk (below_step (by repeat (first|(with_reducible first | exact HB.out | apply below_alloc | apply pw_below_drewN | apply below_drew1 | refine below_set ?_ GE125.out | refine below_set ?_ GE126.out) | exact HB.out)) hb); have n3_ := Aside0.mk (hbox); have n4_ := Aside0.mk ((by rw [hg]; exact (below_size (by repeat (first|(with_reducible first | exact HB.out | apply below_alloc | apply pw_below_drewN | apply below_drew1 | refine below_set ?_ GE125.out | refine below_set ?_ GE126.out) | exact HB.out))) : w.heap.size ≤ gb147)); have n5_ := n4_; have n6_ := Aside0.mk ((by rw [hg]; exact Nat.ne_of_lt (blk_lt (g := gb125) (o := .cells #[.slice A0_0 l0_0.length c0_0, .slice A0_1 l0_1.length c0_1, .int .i64 a0_2, .string a0_3, .int .i64 a0_4] 58 (0, 0)) (by (with_reducible repeat(first|apply bN|apply bD)); exact BK125.out)) : gb125 ≠ gb147)); have n7_ := Aside0.mk n6_.out.symm; have n8_ := Aside0.mk ((by rw [hg]; exact Nat.ne_of_lt (blk_lt (g := gb126) (o := .cells #[.int .i64 x127000_17, .string x127001_17, .int .i64 x127002_17] 24 (0, 0)) (by (with_reducible repeat(first|apply bN|apply bD)); exact BK126.out)) : gb126 ≠ gb147)); have n9_ := Aside0.mk n8_.out.symm; clear BK125; clear BK126; clear HB; have BK125 := n0_; have BK126 := n1_; have HB := n2_; have BK147 := n3_; have GW147 := n4_; have GE147 := n5_; have NB125_147 := n6_; have NB147_125 := n7_; have NB126_147 := n8_; have NB147_126 := n9_; clear n0_ n1_ n2_ n3_ n4_ n5_ n6_ n7_ n8_ n9_; clear hb hbox hg; have hnb68 := NB147_125.out; have hnc68 := NB125_147.out; have hnb69 := NB147_126.out; have hnc69 := NB126_147.out; have hcz70_0 : w67.cell? ⟨gb147, 0, none⟩ = some (.int .i64 0) := (blk_cell BK147.out 0).trans rfl; have hcz70_1 : w67.cell? ⟨gb147, 1, none⟩ = some (.string (⟨#[]⟩ : ByteArray)) := (blk_cell BK147.out 1).trans rfl; have hcz70_2 : w67.cell? ⟨gb147, 2, none⟩ = some (.int .i64 0) := (blk_cell BK147.out 2).trans rfl; have hfz70_0 := blk_frozen BK147.out 0; have hfz70_1 := blk_frozen BK147.out 1; have hfz70_2 := blk_frozen BK147.out 2; have hcz71_0 : w67.cell? ⟨gb125, 0, none⟩ = some (.slice A0_0 l0_0.length c0_0) := (blk_cell BK125.out 0).trans rfl; have hcz71_1 : w67.cell? ⟨gb125, 1, none⟩ = some (.slice A0_1 l0_1.length c0_1) := (blk_cell BK125.out 1).trans rfl; have hcz71_2 : w67.cell? ⟨gb125, 2, none⟩ = some (.int .i64 a0_2) := (blk_cell BK125.out 2).trans rfl; have hcz71_3 : w67.cell? ⟨gb125, 3, none⟩ = some (.string a0_3) := (blk_cell BK125.out 3).trans rfl; have hcz71_4 : w67.cell? ⟨gb125, 4, none⟩ = some (.int .i64 a0_4) := (blk_cell BK125.out 4).trans rfl; have hfz71_0 := blk_frozen BK125.out 0; have hfz71_1 := blk_frozen BK125.out 1; have hfz71_2 := blk_frozen BK125.out 2; have hfz71_3 := blk_frozen BK125.out 3; have hfz71_4 := blk_frozen BK125.out 4) | ((with_reducible refine gate_callee (f := 50) rfl ?_); refine goesL_ (some 74) rfl rfl Try.func50 (by kernel_rfl) rfl #[.agg #[.slice A0_0 l0_0.length c0_0, .slice A0_1 l0_1.length c0_1, .int .i64 a0_2, .string a0_3, .int .i64 a0_4], .int .i64 t145, .string (⟨#[41]⟩ : ByteArray)] rfl (by (try simp only [List.map_toArray, List.map_cons, List.map_nil]); first | done | rfl | (simp only [List.length_drop, List.length_take]; rfl)) ?_; (with_reducible refine (emulatorref26_scope_is.calls _ _ l0_0 _ _ l0_1 a0_2 a0_3 a0_4 t145 (⟨#[41]⟩ : ByteArray) true _ ?side1 ?side2 ?side3 ?side4 A58.out).mono ?_); (case side1 => exact Kd.C_below HR0_0.out (by repeat (first|(with_reducible first | exact HB.out | apply below_alloc | apply pw_below_drewN | apply below_drew1 | refine below_set ?_ GE125.out | refine below_set ?_ GE126.out | refine below_set ?_ GE147.out) | exact HB.out))); (case side2 => exact HC0_0.out); (case side3 => exact Kd.C_below HR0_1.out (by repeat (first|(with_reducible first | exact HB.out | apply below_alloc | apply pw_below_drewN | apply below_drew1 | refine below_set ?_ GE125.out | refine below_set ?_ GE126.out | refine below_set ?_ GE147.out) | exact HB.out))); (case side4 => exact HC0_1.out); rintro e w72 ⟨rfl, hb⟩; refine ⟨_, rfl, ?_⟩; have n0_ := Aside0.mk (blk_below (g := gb125) (o := .cells #[.slice A0_0 l0_0.length c0_0, .slice A0_1 l0_1.length c0_1, .int .i64 a0_2, .string a0_3, .int .i64 a0_4] 58 (0, 0)) (by (with_reducible repeat(first|apply bN|apply bD)); refine blk_far ?_ NB125_147.out _; (with_reducible repeat(first|apply bN|apply bD)); refine blk_far ?_ NB125_147.out _; (with_reducible repeat(first|apply bN|apply bD)); refine blk_far ?_ NB125_147.out _; (with_reducible repeat(first|apply bN|apply bD)); exact BK125.out) hb); have n1_ := Aside0.mk (blk_below (g := gb126) (o := .cells #[.int .i64 x127000_17, .string x127001_17, .int .i64 x127002_17] 24 (0, 0)) (by (with_reducible repeat(first|apply bN|apply bD)); refine blk_far ?_ NB126_147.out _; (with_reducible repeat(first|apply bN|apply bD)); refine blk_far ?_ NB126_147.out _; (with_reducible repeat(first|apply bN|apply bD)); refine blk_far ?_ NB126_147.out _; (with_reducible repeat(first|apply bN|apply bD)); exact BK126.out) hb); have n2_ := Aside0.mk (blk_below (g := gb147) (o := .cells #[.int .i64 t142, .string t143, .int .i64 t144] 24 (0, 0)) (by (with_reducible repeat(first|apply bN|apply bD)); refine blk_put (cs := #[.int .i64 t142, .string t143, .int .i64 0]) ?_ 2 _ rfl; (with_reducible repeat(first|apply bN|apply bD)); refine blk_put (cs := #[.int .i64 t142, .string (⟨#[]⟩ : ByteArray), .int .i64 0]) ?_ 1 _ rfl; (with_reducible repeat(first|apply bN|apply bD)); refine blk_put (cs := #[.int .i64 0, .string (⟨#[]⟩ : ByteArray), .int .i64 0]) ?_ 0 _ rfl; (with_reducible repeat(first|apply bN|apply bD)); exact BK147.out) hb); have n3_ := Aside0.mk (below_step (by repeat (first|(with_reducible first | exact HB.out | apply below_alloc | apply pw_below_drewN | apply below_drew1 | refine below_set ?_ GE125.out | refine below_set ?_ GE126.out | refine below_set ?_ GE147.out) | exact HB.out)) hb); clear BK125; clear BK126; clear BK147; clear HB; have BK125 := n0_; have BK126 := n1_; have BK147 := n2_; have HB := n3_; clear n0_ n1_ n2_ n3_; (try clear hb); (try clear hb2); (try clear hk); (try clear hi); have hcz73_0 : w72.cell? ⟨gb147, 0, none⟩ = some (.int .i64 t142) := (blk_cell BK147.out 0).trans rfl; have hcz73_1 : w72.cell? ⟨gb147, 1, none⟩ = some (.string t143) := (blk_cell BK147.out 1).trans rfl; have hcz73_2 : w72.cell? ⟨gb147, 2, none⟩ = some (.int .i64 t144) := (blk_cell BK147.out 2).trans rfl; have hfz73_0 := blk_frozen BK147.out 0; have hfz73_1 := blk_frozen BK147.out 1; have hfz73_2 := blk_frozen BK147.out 2; have hcz74_0 : w72.cell? ⟨gb126, 0, none⟩ = some (.int .i64 x127000_17) := (blk_cell BK126.out 0).trans rfl; have hcz74_1 : w72.cell? ⟨gb126, 1, none⟩ = some (.string x127001_17) := (blk_cell BK126.out 1).trans rfl; have hcz74_2 : w72.cell? ⟨gb126, 2, none⟩ = some (.int .i64 x127002_17) := (blk_cell BK126.out 2).trans rfl; have hfz74_0 := blk_frozen BK126.out 0; have hfz74_1 := blk_frozen BK126.out 1; have hfz74_2 := blk_frozen BK126.out 2))
         refine bodyPost_ret (results_ctt rfl _ _ gb126 24 #[.int .i64 t142, .string t143, .int .i64 t144] (0, 0) _ rfl (by (with_reducible repeat(first|apply bN|apply bD)); refine blk_put (cs := #[.int .i64 t142, .string t143, .int .i64 x127002_17]) ?_ 2 _ rfl; (with_reducible repeat(first|apply bN|apply bD)); refine blk_put (cs := #[.int .i64 t142, .string x127001_17, .int .i64 x127002_17]) ?_ 1 _ rfl; (with_reducible repeat(first|apply bN|apply bD)); refine blk_put (cs := #[.int .i64 x127000_17, .string x127001_17, .int .i64 x127002_17]) ?_ 0 _ rfl; (with_reducible repeat(first|apply bN|apply bD)); exact BK126.out) Try.underlying24 rfl (by kernel_rfl)) rfl ?_
         exact ⟨by first | rfl | (simp [errW_none, errW_some] <;> rfl) | (simp [*, errW_none, errW_some] <;> rfl), by repeat (first|(with_reducible first | exact HB.out | apply below_alloc | apply pw_below_drewN | apply below_drew1 | refine below_set ?_ GE125.out | refine below_set ?_ GE126.out | refine below_set ?_ GE147.out) | exact HB.out)⟩
        ·replace c59 := Bool.eq_false_iff.mpr c59
         subst c59
         have H1 : (some (0, (⟨#[]⟩ : ByteArray), 0, 0, 3)) = some (r1, r2, r3, r4, r5) := by rw [if_neg (show ¬ (false = true) by decide)] at H; exact H
         clear H
         have H := H1
         clear H1
         simp only [Option.some.injEq, Prod.mk.injEq] at H
         obtain ⟨rfl, rfl, rfl, rfl, rfl⟩ := H
         have hnb75 := NB125_126.out
         have hnc75 := NB126_125.out
         have hcz76_0 : wc.cell? ⟨gb125, 0, none⟩ = some (.slice A0_0 l0_0.length c0_0) := (blk_cell BK125.out 0).trans rfl
         have hcz76_1 : wc.cell? ⟨gb125, 1, none⟩ = some (.slice A0_1 l0_1.length c0_1) := (blk_cell BK125.out 1).trans rfl
         have hcz76_2 : wc.cell? ⟨gb125, 2, none⟩ = some (.int .i64 a0_2) := (blk_cell BK125.out 2).trans rfl
         have hcz76_3 : wc.cell? ⟨gb125, 3, none⟩ = some (.string a0_3) := (blk_cell BK125.out 3).trans rfl
         have hcz76_4 : wc.cell? ⟨gb125, 4, none⟩ = some (.int .i64 a0_4) := (blk_cell BK125.out 4).trans rfl
         have hfz76_0 := blk_frozen BK125.out 0
         have hfz76_1 := blk_frozen BK125.out 1
         have hfz76_2 := blk_frozen BK125.out 2
         have hfz76_3 := blk_frozen BK125.out 3
         have hfz76_4 := blk_frozen BK125.out 4
         go_wp2_with (first | ((with_reducible refine gate_callee (f := 50) rfl ?_); refine goesL_ (some 31) rfl rfl Try.func50 (by kernel_rfl) rfl #[.agg #[.slice A0_0 l0_0.length c0_0, .slice A0_1 l0_1.length c0_1, .int .i64 a0_2, .string a0_3, .int .i64 a0_4], .int .i64 a1, .string (⟨#[45]⟩ : ByteArray)] rfl (by (try simp only [List.map_toArray, List.map_cons, List.map_nil]); first | done | rfl | (simp only [List.length_drop, List.length_take]; rfl)) ?_; (with_reducible refine (emulatorref26_scope_is.calls _ _ l0_0 _ _ l0_1 a0_2 a0_3 a0_4 a1 (⟨#[45]⟩ : ByteArray) false _ ?side1 ?side2 ?side3 ?side4 A23.out).mono ?_); (case side1 => repeat (first | exact (Kd.C_below HR0_0.out HB.out)|(with_reducible refine Kd.C_alloc ?_ _)|(with_reducible refine Kd.C_drewN ?_ _)|(with_reducible refine Kd.C_drew ?_))); (case side2 => exact HC0_0.out); (case side3 => repeat (first | exact (Kd.C_below HR0_1.out HB.out)|(with_reducible refine Kd.C_alloc ?_ _)|(with_reducible refine Kd.C_drewN ?_ _)|(with_reducible refine Kd.C_drew ?_))); (case side4 => exact HC0_1.out); rintro e w77 ⟨rfl, hb⟩; refine ⟨_, rfl, ?_⟩; have n0_ := Aside0.mk (blk_below (g := gb125) (o := .cells #[.slice A0_0 l0_0.length c0_0, .slice A0_1 l0_1.length c0_1, .int .i64 a0_2, .string a0_3, .int .i64 a0_4] 58 (0, 0)) (by (with_reducible repeat(first|apply bN|apply bD)); exact BK125.out) hb); have n1_ := Aside0.mk (blk_below (g := gb126) (o := .cells #[.int .i64 x127000_17, .string x127001_17, .int .i64 x127002_17] 24 (0, 0)) (by (with_reducible repeat(first|apply bN|apply bD)); exact BK126.out) hb); have n2_ := Aside0.mk (below_step (by repeat (first|(with_reducible first | exact HB.out | apply below_alloc | apply pw_below_drewN | apply below_drew1 | refine below_set ?_ GE125.out | refine below_set ?_ GE126.out) | exact HB.out)) hb); clear BK125; clear BK126; clear HB; have BK125 := n0_; have BK126 := n1_; have HB := n2_; clear n0_ n1_ n2_; (try clear hb); (try clear hb2); (try clear hk); (try clear hi); have hcz78_0 : w77.cell? ⟨gb125, 0, none⟩ = some (.slice A0_0 l0_0.length c0_0) := (blk_cell BK125.out 0).trans rfl; have hcz78_1 : w77.cell? ⟨gb125, 1, none⟩ = some (.slice A0_1 l0_1.length c0_1) := (blk_cell BK125.out 1).trans rfl; have hcz78_2 : w77.cell? ⟨gb125, 2, none⟩ = some (.int .i64 a0_2) := (blk_cell BK125.out 2).trans rfl; have hcz78_3 : w77.cell? ⟨gb125, 3, none⟩ = some (.string a0_3) := (blk_cell BK125.out 3).trans rfl; have hcz78_4 : w77.cell? ⟨gb125, 4, none⟩ = some (.int .i64 a0_4) := (blk_cell BK125.out 4).trans rfl; have hfz78_0 := blk_frozen BK125.out 0; have hfz78_1 := blk_frozen BK125.out 1; have hfz78_2 := blk_frozen BK125.out 2; have hfz78_3 := blk_frozen BK125.out 3; have hfz78_4 := blk_frozen BK125.out 4) | ((with_reducible refine gate_callee (f := 50) rfl ?_); refine goesL_ (some 57) rfl rfl Try.func50 (by kernel_rfl) rfl #[.agg #[.slice A0_0 l0_0.length c0_0, .slice A0_1 l0_1.length c0_1, .int .i64 a0_2, .string a0_3, .int .i64 a0_4], .int .i64 a1, .string (⟨#[40]⟩ : ByteArray)] rfl (by (try simp only [List.map_toArray, List.map_cons, List.map_nil]); first | done | rfl | (simp only [List.length_drop, List.length_take]; rfl)) ?_; (with_reducible refine (emulatorref26_scope_is.calls _ _ l0_0 _ _ l0_1 a0_2 a0_3 a0_4 a1 (⟨#[40]⟩ : ByteArray) true _ ?side1 ?side2 ?side3 ?side4 A54.out).mono ?_); (case side1 => repeat (first | exact (Kd.C_below HR0_0.out HB.out)|(with_reducible refine Kd.C_alloc ?_ _)|(with_reducible refine Kd.C_drewN ?_ _)|(with_reducible refine Kd.C_drew ?_))); (case side2 => exact HC0_0.out); (case side3 => repeat (first | exact (Kd.C_below HR0_1.out HB.out)|(with_reducible refine Kd.C_alloc ?_ _)|(with_reducible refine Kd.C_drewN ?_ _)|(with_reducible refine Kd.C_drew ?_))); (case side4 => exact HC0_1.out); rintro e w79 ⟨rfl, hb⟩; refine ⟨_, rfl, ?_⟩; have n0_ := Aside0.mk (blk_below (g := gb125) (o := .cells #[.slice A0_0 l0_0.length c0_0, .slice A0_1 l0_1.length c0_1, .int .i64 a0_2, .string a0_3, .int .i64 a0_4] 58 (0, 0)) (by (with_reducible repeat(first|apply bN|apply bD)); exact BK125.out) hb); have n1_ := Aside0.mk (blk_below (g := gb126) (o := .cells #[.int .i64 x127000_17, .string x127001_17, .int .i64 x127002_17] 24 (0, 0)) (by (with_reducible repeat(first|apply bN|apply bD)); exact BK126.out) hb); have n2_ := Aside0.mk (below_step (by repeat (first|(with_reducible first | exact HB.out | apply below_alloc | apply pw_below_drewN | apply below_drew1 | refine below_set ?_ GE125.out | refine below_set ?_ GE126.out) | exact HB.out)) hb); clear BK125; clear BK126; clear HB; have BK125 := n0_; have BK126 := n1_; have HB := n2_; clear n0_ n1_ n2_; (try clear hb); (try clear hb2); (try clear hk); (try clear hi); have hcz80_0 : w79.cell? ⟨gb125, 0, none⟩ = some (.slice A0_0 l0_0.length c0_0) := (blk_cell BK125.out 0).trans rfl; have hcz80_1 : w79.cell? ⟨gb125, 1, none⟩ = some (.slice A0_1 l0_1.length c0_1) := (blk_cell BK125.out 1).trans rfl; have hcz80_2 : w79.cell? ⟨gb125, 2, none⟩ = some (.int .i64 a0_2) := (blk_cell BK125.out 2).trans rfl; have hcz80_3 : w79.cell? ⟨gb125, 3, none⟩ = some (.string a0_3) := (blk_cell BK125.out 3).trans rfl; have hcz80_4 : w79.cell? ⟨gb125, 4, none⟩ = some (.int .i64 a0_4) := (blk_cell BK125.out 4).trans rfl; have hfz80_0 := blk_frozen BK125.out 0; have hfz80_1 := blk_frozen BK125.out 1; have hfz80_2 := blk_frozen BK125.out 2; have hfz80_3 := blk_frozen BK125.out 3; have hfz80_4 := blk_frozen BK125.out 4) | ((with_reducible refine gate_callee (f := 27) rfl ?_); refine goesL_ (some 64) rfl rfl Try.func27 (by kernel_rfl) rfl #[.agg #[.slice A0_0 l0_0.length c0_0, .slice A0_1 l0_1.length c0_1, .int .i64 a0_2, .string a0_3, .int .i64 a0_4], .int .i64 (wrap64 (a1 + 1)), .int .i64 (wrap64 (a2 + 1))] rfl (by (try simp only [List.map_toArray, List.map_cons, List.map_nil]); first | done | rfl | (simp only [List.length_drop, List.length_take]; rfl)) ?_; (with_reducible refine (HE.out _ _ l0_0 _ _ l0_1 a0_2 a0_3 a0_4 (wrap64 (a1 + 1)) (wrap64 (a2 + 1)) t142 t143 t144 t145 t146 _ ?side1 ?side2 ?side3 ?side4 A56.out).mono ?_); (case side1 => repeat (first | exact (Kd.C_below HR0_0.out HB.out)|(with_reducible refine Kd.C_alloc ?_ _)|(with_reducible refine Kd.C_drewN ?_ _)|(with_reducible refine Kd.C_drew ?_))); (case side2 => exact HC0_0.out); (case side3 => repeat (first | exact (Kd.C_below HR0_1.out HB.out)|(with_reducible refine Kd.C_alloc ?_ _)|(with_reducible refine Kd.C_drewN ?_ _)|(with_reducible refine Kd.C_drew ?_))); (case side4 => exact HC0_1.out); rintro e w81 ⟨rfl, hb⟩; refine ⟨_, rfl, ?_⟩; have n0_ := Aside0.mk (blk_below (g := gb125) (o := .cells #[.slice A0_0 l0_0.length c0_0, .slice A0_1 l0_1.length c0_1, .int .i64 a0_2, .string a0_3, .int .i64 a0_4] 58 (0, 0)) (by (with_reducible repeat(first|apply bN|apply bD)); exact BK125.out) hb); have n1_ := Aside0.mk (blk_below (g := gb126) (o := .cells #[.int .i64 x127000_17, .string x127001_17, .int .i64 x127002_17] 24 (0, 0)) (by (with_reducible repeat(first|apply bN|apply bD)); exact BK126.out) hb); have n2_ := Aside0.mk (below_step (by repeat (first|(with_reducible first | exact HB.out | apply below_alloc | apply pw_below_drewN | apply below_drew1 | refine below_set ?_ GE125.out | refine below_set ?_ GE126.out) | exact HB.out)) hb); clear BK125; clear BK126; clear HB; have BK125 := n0_; have BK126 := n1_; have HB := n2_; clear n0_ n1_ n2_; (try clear hb); (try clear hb2); (try clear hk); (try clear hi)) | ((with_reducible refine gate_dst (N := 14) rfl ?_); refine box_event ?hg (N := 14) ?hd (cs := #[.int .i64 0, .string (⟨#[]⟩ : ByteArray), .int .i64 0]) (t := 24) ?hr ?_; (case hd => rfl); (case hg => rfl); (case hr => first | (go_simp; done) | (go_simp; rfl)); intro gb147 hg w82 hbox hb; have n0_ := Aside0.mk (blk_below (g := gb125) (o := .cells #[.slice A0_0 l0_0.length c0_0, .slice A0_1 l0_1.length c0_1, .int .i64 a0_2, .string a0_3, .int .i64 a0_4] 58 (0, 0)) (by (with_reducible repeat(first|apply bN|apply bD)); exact BK125.out) hb); have n1_ := Aside0.mk (blk_below (g := gb126) (o := .cells #[.int .i64 x127000_17, .string x127001_17, .int .i64 x127002_17] 24 (0, 0)) (by (with_reducible repeat(first|apply bN|apply bD)); exact BK126.out) hb); have n2_ := Aside0.mk (below_step (by repeat (first|(with_reducible first | exact HB.out | apply below_alloc | apply pw_below_drewN | apply below_drew1 | refine below_set ?_ GE125.out | refine below_set ?_ GE126.out) | exact HB.out)) hb); have n3_ := Aside0.mk (hbox); have n4_ := Aside0.mk ((by rw [hg]; exact (below_size (by repeat (first|(with_reducible first | exact HB.out | apply below_alloc | apply pw_below_drewN | apply below_drew1 | refine below_set ?_ GE125.out | refine below_set ?_ GE126.out) | exact HB.out))) : w.heap.size ≤ gb147)); have n5_ := n4_; have n6_ := Aside0.mk ((by rw [hg]; exact Nat.ne_of_lt (blk_lt (g := gb125) (o := .cells #[.slice A0_0 l0_0.length c0_0, .slice A0_1 l0_1.length c0_1, .int .i64 a0_2, .string a0_3, .int .i64 a0_4] 58 (0, 0)) (by (with_reducible repeat(first|apply bN|apply bD)); exact BK125.out)) : gb125 ≠ gb147)); have n7_ := Aside0.mk n6_.out.symm; have n8_ := Aside0.mk ((by rw [hg]; exact Nat.ne_of_lt (blk_lt (g := gb126) (o := .cells #[.int .i64 x127000_17, .string x127001_17, .int .i64 x127002_17] 24 (0, 0)) (by (with_reducible repeat(first|apply bN|apply bD)); exact BK126.out)) : gb126 ≠ gb147)); have n9_ := Aside0.mk n8_.out.symm; clear BK125; clear BK126; clear HB; have BK125 := n0_; have BK126 := n1_; have HB := n2_; have BK147 := n3_; have GW147 := n4_; have GE147 := n5_; have NB125_147 := n6_; have NB147_125 := n7_; have NB126_147 := n8_; have NB147_126 := n9_; clear n0_ n1_ n2_ n3_ n4_ n5_ n6_ n7_ n8_ n9_; clear hb hbox hg; have hnb83 := NB147_125.out; have hnc83 := NB125_147.out; have hnb84 := NB147_126.out; have hnc84 := NB126_147.out; have hcz85_0 : w82.cell? ⟨gb147, 0, none⟩ = some (.int .i64 0) := (blk_cell BK147.out 0).trans rfl; have hcz85_1 : w82.cell? ⟨gb147, 1, none⟩ = some (.string (⟨#[]⟩ : ByteArray)) := (blk_cell BK147.out 1).trans rfl; have hcz85_2 : w82.cell? ⟨gb147, 2, none⟩ = some (.int .i64 0) := (blk_cell BK147.out 2).trans rfl; have hfz85_0 := blk_frozen BK147.out 0; have hfz85_1 := blk_frozen BK147.out 1; have hfz85_2 := blk_frozen BK147.out 2; have hcz86_0 : w82.cell? ⟨gb125, 0, none⟩ = some (.slice A0_0 l0_0.length c0_0) := (blk_cell BK125.out 0).trans rfl; have hcz86_1 : w82.cell? ⟨gb125, 1, none⟩ = some (.slice A0_1 l0_1.length c0_1) := (blk_cell BK125.out 1).trans rfl; have hcz86_2 : w82.cell? ⟨gb125, 2, none⟩ = some (.int .i64 a0_2) := (blk_cell BK125.out 2).trans rfl; have hcz86_3 : w82.cell? ⟨gb125, 3, none⟩ = some (.string a0_3) := (blk_cell BK125.out 3).trans rfl; have hcz86_4 : w82.cell? ⟨gb125, 4, none⟩ = some (.int .i64 a0_4) := (blk_cell BK125.out 4).trans rfl; have hfz86_0 := blk_frozen BK125.out 0; have hfz86_1 := blk_frozen BK125.out 1; have hfz86_2 := blk_frozen BK125.out 2; have hfz86_3 := blk_frozen BK125.out 3; have hfz86_4 := blk_frozen BK125.out 4) | ((with_reducible refine gate_callee (f := 50) rfl ?_); refine goesL_ (some 74) rfl rfl Try.func50 (by kernel_rfl) rfl #[.agg #[.slice A0_0 l0_0.length c0_0, .slice A0_1 l0_1.length c0_1, .int .i64 a0_2, .string a0_3, .int .i64 a0_4], .int .i64 t145, .string (⟨#[41]⟩ : ByteArray)] rfl (by (try simp only [List.map_toArray, List.map_cons, List.map_nil]); first | done | rfl | (simp only [List.length_drop, List.length_take]; rfl)) ?_; (with_reducible refine (emulatorref26_scope_is.calls _ _ l0_0 _ _ l0_1 a0_2 a0_3 a0_4 t145 (⟨#[41]⟩ : ByteArray) false _ ?side1 ?side2 ?side3 ?side4 A58.out).mono ?_); (case side1 => exact Kd.C_below HR0_0.out (by repeat (first|(with_reducible first | exact HB.out | apply below_alloc | apply pw_below_drewN | apply below_drew1 | refine below_set ?_ GE125.out | refine below_set ?_ GE126.out | refine below_set ?_ GE147.out) | exact HB.out))); (case side2 => exact HC0_0.out); (case side3 => exact Kd.C_below HR0_1.out (by repeat (first|(with_reducible first | exact HB.out | apply below_alloc | apply pw_below_drewN | apply below_drew1 | refine below_set ?_ GE125.out | refine below_set ?_ GE126.out | refine below_set ?_ GE147.out) | exact HB.out))); (case side4 => exact HC0_1.out); rintro e w87 ⟨rfl, hb⟩; refine ⟨_, rfl, ?_⟩; have n0_ := Aside0.mk (blk_below (g := gb125) (o := .cells #[.slice A0_0 l0_0.length c0_0, .slice A0_1 l0_1.length c0_1, .int .i64 a0_2, .string a0_3, .int .i64 a0_4] 58 (0, 0)) (by (with_reducible repeat(first|apply bN|apply bD)); refine blk_far ?_ NB125_147.out _; (with_reducible repeat(first|apply bN|apply bD)); refine blk_far ?_ NB125_147.out _; (with_reducible repeat(first|apply bN|apply bD)); refine blk_far ?_ NB125_147.out _; (with_reducible repeat(first|apply bN|apply bD)); exact BK125.out) hb); have n1_ := Aside0.mk (blk_below (g := gb126) (o := .cells #[.int .i64 x127000_17, .string x127001_17, .int .i64 x127002_17] 24 (0, 0)) (by (with_reducible repeat(first|apply bN|apply bD)); refine blk_far ?_ NB126_147.out _; (with_reducible repeat(first|apply bN|apply bD)); refine blk_far ?_ NB126_147.out _; (with_reducible repeat(first|apply bN|apply bD)); refine blk_far ?_ NB126_147.out _; (with_reducible repeat(first|apply bN|apply bD)); exact BK126.out) hb); have n2_ := Aside0.mk (blk_below (g := gb147) (o := .cells #[.int .i64 t142, .string t143, .int .i64 t144] 24 (0, 0)) (by (with_reducible repeat(first|apply bN|apply bD)); refine blk_put (cs := #[.int .i64 t142, .string t143, .int .i64 0]) ?_ 2 _ rfl; (with_reducible repeat(first|apply bN|apply bD)); refine blk_put (cs := #[.int .i64 t142, .string (⟨#[]⟩ : ByteArray), .int .i64 0]) ?_ 1 _ rfl; (with_reducible repeat(first|apply bN|apply bD)); refine blk_put (cs := #[.int .i64 0, .string (⟨#[]⟩ : ByteArray), .int .i64 0]) ?_ 0 _ rfl; (with_reducible repeat(first|apply bN|apply bD)); exact BK147.out) hb); have n3_ := Aside0.mk (below_step (by repeat (first|(with_reducible first | exact HB.out | apply below_alloc | apply pw_below_drewN | apply below_drew1 | refine below_set ?_ GE125.out | refine below_set ?_ GE126.out | refine below_set ?_ GE147.out) | exact HB.out)) hb); clear BK125; clear BK126; clear BK147; clear HB; have BK125 := n0_; have BK126 := n1_; have BK147 := n2_; have HB := n3_; clear n0_ n1_ n2_ n3_; (try clear hb); (try clear hb2); (try clear hk); (try clear hi); have hcz88_0 : w87.cell? ⟨gb126, 0, none⟩ = some (.int .i64 x127000_17) := (blk_cell BK126.out 0).trans rfl; have hcz88_1 : w87.cell? ⟨gb126, 1, none⟩ = some (.string x127001_17) := (blk_cell BK126.out 1).trans rfl; have hcz88_2 : w87.cell? ⟨gb126, 2, none⟩ = some (.int .i64 x127002_17) := (blk_cell BK126.out 2).trans rfl; have hfz88_0 := blk_frozen BK126.out 0; have hfz88_1 := blk_frozen BK126.out 1; have hfz88_2 := blk_frozen BK126.out 2))
         refine bodyPost_ret (results_ctt rfl _ _ gb126 24 #[.int .i64 0, .string (⟨#[]⟩ : ByteArray), .int .i64 0] (0, 0) _ rfl (by (with_reducible repeat(first|apply bN|apply bD)); refine blk_put (cs := #[.int .i64 0, .string (⟨#[]⟩ : ByteArray), .int .i64 x127002_17]) ?_ 2 _ rfl; (with_reducible repeat(first|apply bN|apply bD)); refine blk_put (cs := #[.int .i64 0, .string x127001_17, .int .i64 x127002_17]) ?_ 1 _ rfl; (with_reducible repeat(first|apply bN|apply bD)); refine blk_put (cs := #[.int .i64 x127000_17, .string x127001_17, .int .i64 x127002_17]) ?_ 0 _ rfl; (with_reducible repeat(first|apply bN|apply bD)); exact BK126.out) Try.underlying24 rfl (by kernel_rfl)) rfl ?_
         exact ⟨by first | rfl | (simp [errW_none, errW_some] <;> rfl) | (simp [*, errW_none, errW_some] <;> rfl), by repeat (first|(with_reducible first | exact HB.out | apply below_alloc | apply pw_below_drewN | apply below_drew1 | refine below_set ?_ GE125.out | refine below_set ?_ GE126.out | refine below_set ?_ GE147.out) | exact HB.out)⟩
       ·rw [if_neg c57] at H
        have c57b0 : (t146 == 0) = false := beq_eq_false_iff_ne.mpr c57
        have c57b1 : (t146 != 0) = true := bne_iff_ne.mpr c57
        simp only [Option.some.injEq, Prod.mk.injEq] at H
        obtain ⟨rfl, rfl, rfl, rfl, rfl⟩ := H
        have hnb89 := NB125_126.out
        have hnc89 := NB126_125.out
        have hcz90_0 : wc.cell? ⟨gb125, 0, none⟩ = some (.slice A0_0 l0_0.length c0_0) := (blk_cell BK125.out 0).trans rfl
        have hcz90_1 : wc.cell? ⟨gb125, 1, none⟩ = some (.slice A0_1 l0_1.length c0_1) := (blk_cell BK125.out 1).trans rfl
        have hcz90_2 : wc.cell? ⟨gb125, 2, none⟩ = some (.int .i64 a0_2) := (blk_cell BK125.out 2).trans rfl
        have hcz90_3 : wc.cell? ⟨gb125, 3, none⟩ = some (.string a0_3) := (blk_cell BK125.out 3).trans rfl
        have hcz90_4 : wc.cell? ⟨gb125, 4, none⟩ = some (.int .i64 a0_4) := (blk_cell BK125.out 4).trans rfl
        have hfz90_0 := blk_frozen BK125.out 0
        have hfz90_1 := blk_frozen BK125.out 1
        have hfz90_2 := blk_frozen BK125.out 2
        have hfz90_3 := blk_frozen BK125.out 3
        have hfz90_4 := blk_frozen BK125.out 4
        go_wp2_with (first | ((with_reducible refine gate_callee (f := 50) rfl ?_); refine goesL_ (some 31) rfl rfl Try.func50 (by kernel_rfl) rfl #[.agg #[.slice A0_0 l0_0.length c0_0, .slice A0_1 l0_1.length c0_1, .int .i64 a0_2, .string a0_3, .int .i64 a0_4], .int .i64 a1, .string (⟨#[45]⟩ : ByteArray)] rfl (by (try simp only [List.map_toArray, List.map_cons, List.map_nil]); first | done | rfl | (simp only [List.length_drop, List.length_take]; rfl)) ?_; (with_reducible refine (emulatorref26_scope_is.calls _ _ l0_0 _ _ l0_1 a0_2 a0_3 a0_4 a1 (⟨#[45]⟩ : ByteArray) false _ ?side1 ?side2 ?side3 ?side4 A23.out).mono ?_); (case side1 => repeat (first | exact (Kd.C_below HR0_0.out HB.out)|(with_reducible refine Kd.C_alloc ?_ _)|(with_reducible refine Kd.C_drewN ?_ _)|(with_reducible refine Kd.C_drew ?_))); (case side2 => exact HC0_0.out); (case side3 => repeat (first | exact (Kd.C_below HR0_1.out HB.out)|(with_reducible refine Kd.C_alloc ?_ _)|(with_reducible refine Kd.C_drewN ?_ _)|(with_reducible refine Kd.C_drew ?_))); (case side4 => exact HC0_1.out); rintro e w91 ⟨rfl, hb⟩; refine ⟨_, rfl, ?_⟩; have n0_ := Aside0.mk (blk_below (g := gb125) (o := .cells #[.slice A0_0 l0_0.length c0_0, .slice A0_1 l0_1.length c0_1, .int .i64 a0_2, .string a0_3, .int .i64 a0_4] 58 (0, 0)) (by (with_reducible repeat(first|apply bN|apply bD)); exact BK125.out) hb); have n1_ := Aside0.mk (blk_below (g := gb126) (o := .cells #[.int .i64 x127000_17, .string x127001_17, .int .i64 x127002_17] 24 (0, 0)) (by (with_reducible repeat(first|apply bN|apply bD)); exact BK126.out) hb); have n2_ := Aside0.mk (below_step (by repeat (first|(with_reducible first | exact HB.out | apply below_alloc | apply pw_below_drewN | apply below_drew1 | refine below_set ?_ GE125.out | refine below_set ?_ GE126.out) | exact HB.out)) hb); clear BK125; clear BK126; clear HB; have BK125 := n0_; have BK126 := n1_; have HB := n2_; clear n0_ n1_ n2_; (try clear hb); (try clear hb2); (try clear hk); (try clear hi); have hcz92_0 : w91.cell? ⟨gb125, 0, none⟩ = some (.slice A0_0 l0_0.length c0_0) := (blk_cell BK125.out 0).trans rfl; have hcz92_1 : w91.cell? ⟨gb125, 1, none⟩ = some (.slice A0_1 l0_1.length c0_1) := (blk_cell BK125.out 1).trans rfl; have hcz92_2 : w91.cell? ⟨gb125, 2, none⟩ = some (.int .i64 a0_2) := (blk_cell BK125.out 2).trans rfl; have hcz92_3 : w91.cell? ⟨gb125, 3, none⟩ = some (.string a0_3) := (blk_cell BK125.out 3).trans rfl; have hcz92_4 : w91.cell? ⟨gb125, 4, none⟩ = some (.int .i64 a0_4) := (blk_cell BK125.out 4).trans rfl; have hfz92_0 := blk_frozen BK125.out 0; have hfz92_1 := blk_frozen BK125.out 1; have hfz92_2 := blk_frozen BK125.out 2; have hfz92_3 := blk_frozen BK125.out 3; have hfz92_4 := blk_frozen BK125.out 4) | ((with_reducible refine gate_callee (f := 50) rfl ?_); refine goesL_ (some 57) rfl rfl Try.func50 (by kernel_rfl) rfl #[.agg #[.slice A0_0 l0_0.length c0_0, .slice A0_1 l0_1.length c0_1, .int .i64 a0_2, .string a0_3, .int .i64 a0_4], .int .i64 a1, .string (⟨#[40]⟩ : ByteArray)] rfl (by (try simp only [List.map_toArray, List.map_cons, List.map_nil]); first | done | rfl | (simp only [List.length_drop, List.length_take]; rfl)) ?_; (with_reducible refine (emulatorref26_scope_is.calls _ _ l0_0 _ _ l0_1 a0_2 a0_3 a0_4 a1 (⟨#[40]⟩ : ByteArray) true _ ?side1 ?side2 ?side3 ?side4 A54.out).mono ?_); (case side1 => repeat (first | exact (Kd.C_below HR0_0.out HB.out)|(with_reducible refine Kd.C_alloc ?_ _)|(with_reducible refine Kd.C_drewN ?_ _)|(with_reducible refine Kd.C_drew ?_))); (case side2 => exact HC0_0.out); (case side3 => repeat (first | exact (Kd.C_below HR0_1.out HB.out)|(with_reducible refine Kd.C_alloc ?_ _)|(with_reducible refine Kd.C_drewN ?_ _)|(with_reducible refine Kd.C_drew ?_))); (case side4 => exact HC0_1.out); rintro e w93 ⟨rfl, hb⟩; refine ⟨_, rfl, ?_⟩; have n0_ := Aside0.mk (blk_below (g := gb125) (o := .cells #[.slice A0_0 l0_0.length c0_0, .slice A0_1 l0_1.length c0_1, .int .i64 a0_2, .string a0_3, .int .i64 a0_4] 58 (0, 0)) (by (with_reducible repeat(first|apply bN|apply bD)); exact BK125.out) hb); have n1_ := Aside0.mk (blk_below (g := gb126) (o := .cells #[.int .i64 x127000_17, .string x127001_17, .int .i64 x127002_17] 24 (0, 0)) (by (with_reducible repeat(first|apply bN|apply bD)); exact BK126.out) hb); have n2_ := Aside0.mk (below_step (by repeat (first|(with_reducible first | exact HB.out | apply below_alloc | apply pw_below_drewN | apply below_drew1 | refine below_set ?_ GE125.out | refine below_set ?_ GE126.out) | exact HB.out)) hb); clear BK125; clear BK126; clear HB; have BK125 := n0_; have BK126 := n1_; have HB := n2_; clear n0_ n1_ n2_; (try clear hb); (try clear hb2); (try clear hk); (try clear hi); have hcz94_0 : w93.cell? ⟨gb125, 0, none⟩ = some (.slice A0_0 l0_0.length c0_0) := (blk_cell BK125.out 0).trans rfl; have hcz94_1 : w93.cell? ⟨gb125, 1, none⟩ = some (.slice A0_1 l0_1.length c0_1) := (blk_cell BK125.out 1).trans rfl; have hcz94_2 : w93.cell? ⟨gb125, 2, none⟩ = some (.int .i64 a0_2) := (blk_cell BK125.out 2).trans rfl; have hcz94_3 : w93.cell? ⟨gb125, 3, none⟩ = some (.string a0_3) := (blk_cell BK125.out 3).trans rfl; have hcz94_4 : w93.cell? ⟨gb125, 4, none⟩ = some (.int .i64 a0_4) := (blk_cell BK125.out 4).trans rfl; have hfz94_0 := blk_frozen BK125.out 0; have hfz94_1 := blk_frozen BK125.out 1; have hfz94_2 := blk_frozen BK125.out 2; have hfz94_3 := blk_frozen BK125.out 3; have hfz94_4 := blk_frozen BK125.out 4) | ((with_reducible refine gate_callee (f := 27) rfl ?_); refine goesL_ (some 64) rfl rfl Try.func27 (by kernel_rfl) rfl #[.agg #[.slice A0_0 l0_0.length c0_0, .slice A0_1 l0_1.length c0_1, .int .i64 a0_2, .string a0_3, .int .i64 a0_4], .int .i64 (wrap64 (a1 + 1)), .int .i64 (wrap64 (a2 + 1))] rfl (by (try simp only [List.map_toArray, List.map_cons, List.map_nil]); first | done | rfl | (simp only [List.length_drop, List.length_take]; rfl)) ?_; (with_reducible refine (HE.out _ _ l0_0 _ _ l0_1 a0_2 a0_3 a0_4 (wrap64 (a1 + 1)) (wrap64 (a2 + 1)) t142 t143 t144 t145 t146 _ ?side1 ?side2 ?side3 ?side4 A56.out).mono ?_); (case side1 => repeat (first | exact (Kd.C_below HR0_0.out HB.out)|(with_reducible refine Kd.C_alloc ?_ _)|(with_reducible refine Kd.C_drewN ?_ _)|(with_reducible refine Kd.C_drew ?_))); (case side2 => exact HC0_0.out); (case side3 => repeat (first | exact (Kd.C_below HR0_1.out HB.out)|(with_reducible refine Kd.C_alloc ?_ _)|(with_reducible refine Kd.C_drewN ?_ _)|(with_reducible refine Kd.C_drew ?_))); (case side4 => exact HC0_1.out); rintro e w95 ⟨rfl, hb⟩; refine ⟨_, rfl, ?_⟩; have n0_ := Aside0.mk (blk_below (g := gb125) (o := .cells #[.slice A0_0 l0_0.length c0_0, .slice A0_1 l0_1.length c0_1, .int .i64 a0_2, .string a0_3, .int .i64 a0_4] 58 (0, 0)) (by (with_reducible repeat(first|apply bN|apply bD)); exact BK125.out) hb); have n1_ := Aside0.mk (blk_below (g := gb126) (o := .cells #[.int .i64 x127000_17, .string x127001_17, .int .i64 x127002_17] 24 (0, 0)) (by (with_reducible repeat(first|apply bN|apply bD)); exact BK126.out) hb); have n2_ := Aside0.mk (below_step (by repeat (first|(with_reducible first | exact HB.out | apply below_alloc | apply pw_below_drewN | apply below_drew1 | refine below_set ?_ GE125.out | refine below_set ?_ GE126.out) | exact HB.out)) hb); clear BK125; clear BK126; clear HB; have BK125 := n0_; have BK126 := n1_; have HB := n2_; clear n0_ n1_ n2_; (try clear hb); (try clear hb2); (try clear hk); (try clear hi)) | ((with_reducible refine gate_dst (N := 14) rfl ?_); refine box_event ?hg (N := 14) ?hd (cs := #[.int .i64 0, .string (⟨#[]⟩ : ByteArray), .int .i64 0]) (t := 24) ?hr ?_; (case hd => rfl); (case hg => rfl); (case hr => first | (go_simp; done) | (go_simp; rfl)); intro gb147 hg w96 hbox hb; have n0_ := Aside0.mk (blk_below (g := gb125) (o := .cells #[.slice A0_0 l0_0.length c0_0, .slice A0_1 l0_1.length c0_1, .int .i64 a0_2, .string a0_3, .int .i64 a0_4] 58 (0, 0)) (by (with_reducible repeat(first|apply bN|apply bD)); exact BK125.out) hb); have n1_ := Aside0.mk (blk_below (g := gb126) (o := .cells #[.int .i64 x127000_17, .string x127001_17, .int .i64 x127002_17] 24 (0, 0)) (by (with_reducible repeat(first|apply bN|apply bD)); exact BK126.out) hb); have n2_ := Aside0.mk (below_step (by repeat (first|(with_reducible first | exact HB.out | apply below_alloc | apply pw_below_drewN | apply below_drew1 | refine below_set ?_ GE125.out | refine below_set ?_ GE126.out) | exact HB.out)) hb); have n3_ := Aside0.mk (hbox); have n4_ := Aside0.mk ((by rw [hg]; exact (below_size (by repeat (first|(with_reducible first | exact HB.out | apply below_alloc | apply pw_below_drewN | apply below_drew1 | refine below_set ?_ GE125.out | refine below_set ?_ GE126.out) | exact HB.out))) : w.heap.size ≤ gb147)); have n5_ := n4_; have n6_ := Aside0.mk ((by rw [hg]; exact Nat.ne_of_lt (blk_lt (g := gb125) (o := .cells #[.slice A0_0 l0_0.length c0_0, .slice A0_1 l0_1.length c0_1, .int .i64 a0_2, .string a0_3, .int .i64 a0_4] 58 (0, 0)) (by (with_reducible repeat(first|apply bN|apply bD)); exact BK125.out)) : gb125 ≠ gb147)); have n7_ := Aside0.mk n6_.out.symm; have n8_ := Aside0.mk ((by rw [hg]; exact Nat.ne_of_lt (blk_lt (g := gb126) (o := .cells #[.int .i64 x127000_17, .string x127001_17, .int .i64 x127002_17] 24 (0, 0)) (by (with_reducible repeat(first|apply bN|apply bD)); exact BK126.out)) : gb126 ≠ gb147)); have n9_ := Aside0.mk n8_.out.symm; clear BK125; clear BK126; clear HB; have BK125 := n0_; have BK126 := n1_; have HB := n2_; have BK147 := n3_; have GW147 := n4_; have GE147 := n5_; have NB125_147 := n6_; have NB147_125 := n7_; have NB126_147 := n8_; have NB147_126 := n9_; clear n0_ n1_ n2_ n3_ n4_ n5_ n6_ n7_ n8_ n9_; clear hb hbox hg; have hnb97 := NB147_125.out; have hnc97 := NB125_147.out; have hnb98 := NB147_126.out; have hnc98 := NB126_147.out; have hcz99_0 : w96.cell? ⟨gb147, 0, none⟩ = some (.int .i64 0) := (blk_cell BK147.out 0).trans rfl; have hcz99_1 : w96.cell? ⟨gb147, 1, none⟩ = some (.string (⟨#[]⟩ : ByteArray)) := (blk_cell BK147.out 1).trans rfl; have hcz99_2 : w96.cell? ⟨gb147, 2, none⟩ = some (.int .i64 0) := (blk_cell BK147.out 2).trans rfl; have hfz99_0 := blk_frozen BK147.out 0; have hfz99_1 := blk_frozen BK147.out 1; have hfz99_2 := blk_frozen BK147.out 2; have hcz100_0 : w96.cell? ⟨gb126, 0, none⟩ = some (.int .i64 x127000_17) := (blk_cell BK126.out 0).trans rfl; have hcz100_1 : w96.cell? ⟨gb126, 1, none⟩ = some (.string x127001_17) := (blk_cell BK126.out 1).trans rfl; have hcz100_2 : w96.cell? ⟨gb126, 2, none⟩ = some (.int .i64 x127002_17) := (blk_cell BK126.out 2).trans rfl; have hfz100_0 := blk_frozen BK126.out 0; have hfz100_1 := blk_frozen BK126.out 1; have hfz100_2 := blk_frozen BK126.out 2))
        refine bodyPost_ret (results_ctt rfl _ _ gb126 24 #[.int .i64 0, .string (⟨#[]⟩ : ByteArray), .int .i64 0] (0, 0) _ rfl (by (with_reducible repeat(first|apply bN|apply bD)); refine blk_put (cs := #[.int .i64 0, .string (⟨#[]⟩ : ByteArray), .int .i64 x127002_17]) ?_ 2 _ rfl; (with_reducible repeat(first|apply bN|apply bD)); refine blk_put (cs := #[.int .i64 0, .string x127001_17, .int .i64 x127002_17]) ?_ 1 _ rfl; (with_reducible repeat(first|apply bN|apply bD)); refine blk_put (cs := #[.int .i64 x127000_17, .string x127001_17, .int .i64 x127002_17]) ?_ 0 _ rfl; (with_reducible repeat(first|apply bN|apply bD)); refine blk_far ?_ NB126_147.out _; (with_reducible repeat(first|apply bN|apply bD)); refine blk_far ?_ NB126_147.out _; (with_reducible repeat(first|apply bN|apply bD)); refine blk_far ?_ NB126_147.out _; (with_reducible repeat(first|apply bN|apply bD)); exact BK126.out) Try.underlying24 rfl (by kernel_rfl)) rfl ?_
        exact ⟨by first | rfl | (simp [errW_none, errW_some] <;> rfl) | (simp [*, errW_none, errW_some] <;> rfl), by repeat (first|(with_reducible first | exact HB.out | apply below_alloc | apply pw_below_drewN | apply below_drew1 | refine below_set ?_ GE125.out | refine below_set ?_ GE126.out | refine below_set ?_ GE147.out) | exact HB.out)⟩
      ·replace c55 := Bool.eq_false_iff.mpr c55
       subst c55
       have H1 : (if a1 ≥ (l0_0.length : Int) then (some (0, (⟨#[]⟩ : ByteArray), 0, 0, 3)) else (if 0 ≤ a1 then (if a1 < (l0_0.length : Int) then (if ((rd_T38 l0_0 a1).f0) = 2 then (some (0, (⟨#[]⟩ : ByteArray), Go.bits .and .i64 ((rd_T38 l0_0 a1).f2) 65535, wrap64 (a1 + 1), 0)) else (if ((rd_T38 l0_0 a1).f0) = 1 then (rterm36.j2 D kj17 a1 (((rd_T38 l0_0 a1).f1).toList == ([46] : List UInt8)) l0_0 l0_1 a0_2 a0_3 a0_4 ((rd_T38 l0_0 a1).f0) ((rd_T38 l0_0 a1).f1) ((rd_T38 l0_0 a1).f2) ((rd_T38 l0_0 a1).f3)) else (rterm36.j2 D kj17 a1 false l0_0 l0_1 a0_2 a0_3 a0_4 ((rd_T38 l0_0 a1).f0) ((rd_T38 l0_0 a1).f1) ((rd_T38 l0_0 a1).f2) ((rd_T38 l0_0 a1).f3)))) else (none)) else (none))) = some (r1, r2, r3, r4, r5) := by rw [if_neg (show ¬ (false = true) by decide)] at H; exact H
       clear H
       have H := H1
       clear H1
       by_cases c101 : a1 ≥ (l0_0.length : Int)
       ·rw [if_pos c101] at H
        have c101b0 : decide ((l0_0.length : Int) ≤ a1) = true := decide_eq_true c101
        clear c101
        simp only [Option.some.injEq, Prod.mk.injEq] at H
        obtain ⟨rfl, rfl, rfl, rfl, rfl⟩ := H
        have hnb102 := NB125_126.out
        have hnc102 := NB126_125.out
        have hcz103_0 : wc.cell? ⟨gb125, 0, none⟩ = some (.slice A0_0 l0_0.length c0_0) := (blk_cell BK125.out 0).trans rfl
        have hcz103_1 : wc.cell? ⟨gb125, 1, none⟩ = some (.slice A0_1 l0_1.length c0_1) := (blk_cell BK125.out 1).trans rfl
        have hcz103_2 : wc.cell? ⟨gb125, 2, none⟩ = some (.int .i64 a0_2) := (blk_cell BK125.out 2).trans rfl
        have hcz103_3 : wc.cell? ⟨gb125, 3, none⟩ = some (.string a0_3) := (blk_cell BK125.out 3).trans rfl
        have hcz103_4 : wc.cell? ⟨gb125, 4, none⟩ = some (.int .i64 a0_4) := (blk_cell BK125.out 4).trans rfl
        have hfz103_0 := blk_frozen BK125.out 0
        have hfz103_1 := blk_frozen BK125.out 1
        have hfz103_2 := blk_frozen BK125.out 2
        have hfz103_3 := blk_frozen BK125.out 3
        have hfz103_4 := blk_frozen BK125.out 4
        go_wp2_with (first | ((with_reducible refine gate_callee (f := 50) rfl ?_); refine goesL_ (some 31) rfl rfl Try.func50 (by kernel_rfl) rfl #[.agg #[.slice A0_0 l0_0.length c0_0, .slice A0_1 l0_1.length c0_1, .int .i64 a0_2, .string a0_3, .int .i64 a0_4], .int .i64 a1, .string (⟨#[45]⟩ : ByteArray)] rfl (by (try simp only [List.map_toArray, List.map_cons, List.map_nil]); first | done | rfl | (simp only [List.length_drop, List.length_take]; rfl)) ?_; (with_reducible refine (emulatorref26_scope_is.calls _ _ l0_0 _ _ l0_1 a0_2 a0_3 a0_4 a1 (⟨#[45]⟩ : ByteArray) false _ ?side1 ?side2 ?side3 ?side4 A23.out).mono ?_); (case side1 => repeat (first | exact (Kd.C_below HR0_0.out HB.out)|(with_reducible refine Kd.C_alloc ?_ _)|(with_reducible refine Kd.C_drewN ?_ _)|(with_reducible refine Kd.C_drew ?_))); (case side2 => exact HC0_0.out); (case side3 => repeat (first | exact (Kd.C_below HR0_1.out HB.out)|(with_reducible refine Kd.C_alloc ?_ _)|(with_reducible refine Kd.C_drewN ?_ _)|(with_reducible refine Kd.C_drew ?_))); (case side4 => exact HC0_1.out); rintro e w104 ⟨rfl, hb⟩; refine ⟨_, rfl, ?_⟩; have n0_ := Aside0.mk (blk_below (g := gb125) (o := .cells #[.slice A0_0 l0_0.length c0_0, .slice A0_1 l0_1.length c0_1, .int .i64 a0_2, .string a0_3, .int .i64 a0_4] 58 (0, 0)) (by (with_reducible repeat(first|apply bN|apply bD)); exact BK125.out) hb); have n1_ := Aside0.mk (blk_below (g := gb126) (o := .cells #[.int .i64 x127000_17, .string x127001_17, .int .i64 x127002_17] 24 (0, 0)) (by (with_reducible repeat(first|apply bN|apply bD)); exact BK126.out) hb); have n2_ := Aside0.mk (below_step (by repeat (first|(with_reducible first | exact HB.out | apply below_alloc | apply pw_below_drewN | apply below_drew1 | refine below_set ?_ GE125.out | refine below_set ?_ GE126.out) | exact HB.out)) hb); clear BK125; clear BK126; clear HB; have BK125 := n0_; have BK126 := n1_; have HB := n2_; clear n0_ n1_ n2_; (try clear hb); (try clear hb2); (try clear hk); (try clear hi); have hcz105_0 : w104.cell? ⟨gb125, 0, none⟩ = some (.slice A0_0 l0_0.length c0_0) := (blk_cell BK125.out 0).trans rfl; have hcz105_1 : w104.cell? ⟨gb125, 1, none⟩ = some (.slice A0_1 l0_1.length c0_1) := (blk_cell BK125.out 1).trans rfl; have hcz105_2 : w104.cell? ⟨gb125, 2, none⟩ = some (.int .i64 a0_2) := (blk_cell BK125.out 2).trans rfl; have hcz105_3 : w104.cell? ⟨gb125, 3, none⟩ = some (.string a0_3) := (blk_cell BK125.out 3).trans rfl; have hcz105_4 : w104.cell? ⟨gb125, 4, none⟩ = some (.int .i64 a0_4) := (blk_cell BK125.out 4).trans rfl; have hfz105_0 := blk_frozen BK125.out 0; have hfz105_1 := blk_frozen BK125.out 1; have hfz105_2 := blk_frozen BK125.out 2; have hfz105_3 := blk_frozen BK125.out 3; have hfz105_4 := blk_frozen BK125.out 4) | ((with_reducible refine gate_callee (f := 50) rfl ?_); refine goesL_ (some 57) rfl rfl Try.func50 (by kernel_rfl) rfl #[.agg #[.slice A0_0 l0_0.length c0_0, .slice A0_1 l0_1.length c0_1, .int .i64 a0_2, .string a0_3, .int .i64 a0_4], .int .i64 a1, .string (⟨#[40]⟩ : ByteArray)] rfl (by (try simp only [List.map_toArray, List.map_cons, List.map_nil]); first | done | rfl | (simp only [List.length_drop, List.length_take]; rfl)) ?_; (with_reducible refine (emulatorref26_scope_is.calls _ _ l0_0 _ _ l0_1 a0_2 a0_3 a0_4 a1 (⟨#[40]⟩ : ByteArray) false _ ?side1 ?side2 ?side3 ?side4 A54.out).mono ?_); (case side1 => repeat (first | exact (Kd.C_below HR0_0.out HB.out)|(with_reducible refine Kd.C_alloc ?_ _)|(with_reducible refine Kd.C_drewN ?_ _)|(with_reducible refine Kd.C_drew ?_))); (case side2 => exact HC0_0.out); (case side3 => repeat (first | exact (Kd.C_below HR0_1.out HB.out)|(with_reducible refine Kd.C_alloc ?_ _)|(with_reducible refine Kd.C_drewN ?_ _)|(with_reducible refine Kd.C_drew ?_))); (case side4 => exact HC0_1.out); rintro e w106 ⟨rfl, hb⟩; refine ⟨_, rfl, ?_⟩; have n0_ := Aside0.mk (blk_below (g := gb125) (o := .cells #[.slice A0_0 l0_0.length c0_0, .slice A0_1 l0_1.length c0_1, .int .i64 a0_2, .string a0_3, .int .i64 a0_4] 58 (0, 0)) (by (with_reducible repeat(first|apply bN|apply bD)); exact BK125.out) hb); have n1_ := Aside0.mk (blk_below (g := gb126) (o := .cells #[.int .i64 x127000_17, .string x127001_17, .int .i64 x127002_17] 24 (0, 0)) (by (with_reducible repeat(first|apply bN|apply bD)); exact BK126.out) hb); have n2_ := Aside0.mk (below_step (by repeat (first|(with_reducible first | exact HB.out | apply below_alloc | apply pw_below_drewN | apply below_drew1 | refine below_set ?_ GE125.out | refine below_set ?_ GE126.out) | exact HB.out)) hb); clear BK125; clear BK126; clear HB; have BK125 := n0_; have BK126 := n1_; have HB := n2_; clear n0_ n1_ n2_; (try clear hb); (try clear hb2); (try clear hk); (try clear hi); have hcz107_0 : w106.cell? ⟨gb125, 0, none⟩ = some (.slice A0_0 l0_0.length c0_0) := (blk_cell BK125.out 0).trans rfl; have hcz107_1 : w106.cell? ⟨gb125, 1, none⟩ = some (.slice A0_1 l0_1.length c0_1) := (blk_cell BK125.out 1).trans rfl; have hcz107_2 : w106.cell? ⟨gb125, 2, none⟩ = some (.int .i64 a0_2) := (blk_cell BK125.out 2).trans rfl; have hcz107_3 : w106.cell? ⟨gb125, 3, none⟩ = some (.string a0_3) := (blk_cell BK125.out 3).trans rfl; have hcz107_4 : w106.cell? ⟨gb125, 4, none⟩ = some (.int .i64 a0_4) := (blk_cell BK125.out 4).trans rfl; have hfz107_0 := blk_frozen BK125.out 0; have hfz107_1 := blk_frozen BK125.out 1; have hfz107_2 := blk_frozen BK125.out 2; have hfz107_3 := blk_frozen BK125.out 3; have hfz107_4 := blk_frozen BK125.out 4; have hcz108_0 : w106.cell? ⟨gb126, 0, none⟩ = some (.int .i64 x127000_17) := (blk_cell BK126.out 0).trans rfl; have hcz108_1 : w106.cell? ⟨gb126, 1, none⟩ = some (.string x127001_17) := (blk_cell BK126.out 1).trans rfl; have hcz108_2 : w106.cell? ⟨gb126, 2, none⟩ = some (.int .i64 x127002_17) := (blk_cell BK126.out 2).trans rfl; have hfz108_0 := blk_frozen BK126.out 0; have hfz108_1 := blk_frozen BK126.out 1; have hfz108_2 := blk_frozen BK126.out 2))
        refine bodyPost_ret (results_ctt rfl _ _ gb126 24 #[.int .i64 0, .string (⟨#[]⟩ : ByteArray), .int .i64 0] (0, 0) _ rfl (by (with_reducible repeat(first|apply bN|apply bD)); refine blk_put (cs := #[.int .i64 0, .string (⟨#[]⟩ : ByteArray), .int .i64 x127002_17]) ?_ 2 _ rfl; (with_reducible repeat(first|apply bN|apply bD)); refine blk_put (cs := #[.int .i64 0, .string x127001_17, .int .i64 x127002_17]) ?_ 1 _ rfl; (with_reducible repeat(first|apply bN|apply bD)); refine blk_put (cs := #[.int .i64 x127000_17, .string x127001_17, .int .i64 x127002_17]) ?_ 0 _ rfl; (with_reducible repeat(first|apply bN|apply bD)); exact BK126.out) Try.underlying24 rfl (by kernel_rfl)) rfl ?_
        exact ⟨by first | rfl | (simp [errW_none, errW_some] <;> rfl) | (simp [*, errW_none, errW_some] <;> rfl), by repeat (first|(with_reducible first | exact HB.out | apply below_alloc | apply pw_below_drewN | apply below_drew1 | refine below_set ?_ GE125.out | refine below_set ?_ GE126.out) | exact HB.out)⟩
       ·rw [if_neg c101] at H
        have c101b0 : decide ((l0_0.length : Int) ≤ a1) = false := decide_eq_false c101
        clear c101
        by_cases c109 : 0 ≤ a1
        ·rw [if_pos c109] at H
         have c109b0 : decide (0 ≤ a1) = true := decide_eq_true c109
         clear c109
         by_cases c110 : a1 < (l0_0.length : Int)
         ·rw [if_pos c110] at H
          have c110b0 : decide (a1 < (l0_0.length : Int)) = true := decide_eq_true c110
          clear c110
          by_cases c111 : ((rd_T38 l0_0 a1).f0) = 2
          ·rw [if_pos c111] at H
           have c111b0 : (((rd_T38 l0_0 a1).f0) == 2) = true := beq_iff_eq.mpr c111
           have c111b1 : (((rd_T38 l0_0 a1).f0) != 2) = false := bne_eq_false_iff_eq.mpr c111
           clear c111
           simp only [Option.some.injEq, Prod.mk.injEq] at H
           obtain ⟨rfl, rfl, rfl, rfl, rfl⟩ := H
           have hnb112 := NB125_126.out
           have hnc112 := NB126_125.out
           have hcz113_0 : wc.cell? ⟨gb125, 0, none⟩ = some (.slice A0_0 l0_0.length c0_0) := (blk_cell BK125.out 0).trans rfl
           have hcz113_1 : wc.cell? ⟨gb125, 1, none⟩ = some (.slice A0_1 l0_1.length c0_1) := (blk_cell BK125.out 1).trans rfl
           have hcz113_2 : wc.cell? ⟨gb125, 2, none⟩ = some (.int .i64 a0_2) := (blk_cell BK125.out 2).trans rfl
           have hcz113_3 : wc.cell? ⟨gb125, 3, none⟩ = some (.string a0_3) := (blk_cell BK125.out 3).trans rfl
           have hcz113_4 : wc.cell? ⟨gb125, 4, none⟩ = some (.int .i64 a0_4) := (blk_cell BK125.out 4).trans rfl
           have hfz113_0 := blk_frozen BK125.out 0
           have hfz113_1 := blk_frozen BK125.out 1
           have hfz113_2 := blk_frozen BK125.out 2
           have hfz113_3 := blk_frozen BK125.out 3
           have hfz113_4 := blk_frozen BK125.out 4
           go_wp2_with (first | ((with_reducible refine gate_callee (f := 50) rfl ?_); refine goesL_ (some 31) rfl rfl Try.func50 (by kernel_rfl) rfl #[.agg #[.slice A0_0 l0_0.length c0_0, .slice A0_1 l0_1.length c0_1, .int .i64 a0_2, .string a0_3, .int .i64 a0_4], .int .i64 a1, .string (⟨#[45]⟩ : ByteArray)] rfl (by (try simp only [List.map_toArray, List.map_cons, List.map_nil]); first | done | rfl | (simp only [List.length_drop, List.length_take]; rfl)) ?_; (with_reducible refine (emulatorref26_scope_is.calls _ _ l0_0 _ _ l0_1 a0_2 a0_3 a0_4 a1 (⟨#[45]⟩ : ByteArray) false _ ?side1 ?side2 ?side3 ?side4 A23.out).mono ?_); (case side1 => repeat (first | exact (Kd.C_below HR0_0.out HB.out)|(with_reducible refine Kd.C_alloc ?_ _)|(with_reducible refine Kd.C_drewN ?_ _)|(with_reducible refine Kd.C_drew ?_))); (case side2 => exact HC0_0.out); (case side3 => repeat (first | exact (Kd.C_below HR0_1.out HB.out)|(with_reducible refine Kd.C_alloc ?_ _)|(with_reducible refine Kd.C_drewN ?_ _)|(with_reducible refine Kd.C_drew ?_))); (case side4 => exact HC0_1.out); rintro e w114 ⟨rfl, hb⟩; refine ⟨_, rfl, ?_⟩; have n0_ := Aside0.mk (blk_below (g := gb125) (o := .cells #[.slice A0_0 l0_0.length c0_0, .slice A0_1 l0_1.length c0_1, .int .i64 a0_2, .string a0_3, .int .i64 a0_4] 58 (0, 0)) (by (with_reducible repeat(first|apply bN|apply bD)); exact BK125.out) hb); have n1_ := Aside0.mk (blk_below (g := gb126) (o := .cells #[.int .i64 x127000_17, .string x127001_17, .int .i64 x127002_17] 24 (0, 0)) (by (with_reducible repeat(first|apply bN|apply bD)); exact BK126.out) hb); have n2_ := Aside0.mk (below_step (by repeat (first|(with_reducible first | exact HB.out | apply below_alloc | apply pw_below_drewN | apply below_drew1 | refine below_set ?_ GE125.out | refine below_set ?_ GE126.out) | exact HB.out)) hb); clear BK125; clear BK126; clear HB; have BK125 := n0_; have BK126 := n1_; have HB := n2_; clear n0_ n1_ n2_; (try clear hb); (try clear hb2); (try clear hk); (try clear hi); have hcz115_0 : w114.cell? ⟨gb125, 0, none⟩ = some (.slice A0_0 l0_0.length c0_0) := (blk_cell BK125.out 0).trans rfl; have hcz115_1 : w114.cell? ⟨gb125, 1, none⟩ = some (.slice A0_1 l0_1.length c0_1) := (blk_cell BK125.out 1).trans rfl; have hcz115_2 : w114.cell? ⟨gb125, 2, none⟩ = some (.int .i64 a0_2) := (blk_cell BK125.out 2).trans rfl; have hcz115_3 : w114.cell? ⟨gb125, 3, none⟩ = some (.string a0_3) := (blk_cell BK125.out 3).trans rfl; have hcz115_4 : w114.cell? ⟨gb125, 4, none⟩ = some (.int .i64 a0_4) := (blk_cell BK125.out 4).trans rfl; have hfz115_0 := blk_frozen BK125.out 0; have hfz115_1 := blk_frozen BK125.out 1; have hfz115_2 := blk_frozen BK125.out 2; have hfz115_3 := blk_frozen BK125.out 3; have hfz115_4 := blk_frozen BK125.out 4) | ((with_reducible refine gate_callee (f := 50) rfl ?_); refine goesL_ (some 57) rfl rfl Try.func50 (by kernel_rfl) rfl #[.agg #[.slice A0_0 l0_0.length c0_0, .slice A0_1 l0_1.length c0_1, .int .i64 a0_2, .string a0_3, .int .i64 a0_4], .int .i64 a1, .string (⟨#[40]⟩ : ByteArray)] rfl (by (try simp only [List.map_toArray, List.map_cons, List.map_nil]); first | done | rfl | (simp only [List.length_drop, List.length_take]; rfl)) ?_; (with_reducible refine (emulatorref26_scope_is.calls _ _ l0_0 _ _ l0_1 a0_2 a0_3 a0_4 a1 (⟨#[40]⟩ : ByteArray) false _ ?side1 ?side2 ?side3 ?side4 A54.out).mono ?_); (case side1 => repeat (first | exact (Kd.C_below HR0_0.out HB.out)|(with_reducible refine Kd.C_alloc ?_ _)|(with_reducible refine Kd.C_drewN ?_ _)|(with_reducible refine Kd.C_drew ?_))); (case side2 => exact HC0_0.out); (case side3 => repeat (first | exact (Kd.C_below HR0_1.out HB.out)|(with_reducible refine Kd.C_alloc ?_ _)|(with_reducible refine Kd.C_drewN ?_ _)|(with_reducible refine Kd.C_drew ?_))); (case side4 => exact HC0_1.out); rintro e w116 ⟨rfl, hb⟩; refine ⟨_, rfl, ?_⟩; have n0_ := Aside0.mk (blk_below (g := gb125) (o := .cells #[.slice A0_0 l0_0.length c0_0, .slice A0_1 l0_1.length c0_1, .int .i64 a0_2, .string a0_3, .int .i64 a0_4] 58 (0, 0)) (by (with_reducible repeat(first|apply bN|apply bD)); exact BK125.out) hb); have n1_ := Aside0.mk (blk_below (g := gb126) (o := .cells #[.int .i64 x127000_17, .string x127001_17, .int .i64 x127002_17] 24 (0, 0)) (by (with_reducible repeat(first|apply bN|apply bD)); exact BK126.out) hb); have n2_ := Aside0.mk (below_step (by repeat (first|(with_reducible first | exact HB.out | apply below_alloc | apply pw_below_drewN | apply below_drew1 | refine below_set ?_ GE125.out | refine below_set ?_ GE126.out) | exact HB.out)) hb); clear BK125; clear BK126; clear HB; have BK125 := n0_; have BK126 := n1_; have HB := n2_; clear n0_ n1_ n2_; (try clear hb); (try clear hb2); (try clear hk); (try clear hi); have hcz117_0 : w116.cell? ⟨gb125, 0, none⟩ = some (.slice A0_0 l0_0.length c0_0) := (blk_cell BK125.out 0).trans rfl; have hcz117_1 : w116.cell? ⟨gb125, 1, none⟩ = some (.slice A0_1 l0_1.length c0_1) := (blk_cell BK125.out 1).trans rfl; have hcz117_2 : w116.cell? ⟨gb125, 2, none⟩ = some (.int .i64 a0_2) := (blk_cell BK125.out 2).trans rfl; have hcz117_3 : w116.cell? ⟨gb125, 3, none⟩ = some (.string a0_3) := (blk_cell BK125.out 3).trans rfl; have hcz117_4 : w116.cell? ⟨gb125, 4, none⟩ = some (.int .i64 a0_4) := (blk_cell BK125.out 4).trans rfl; have hfz117_0 := blk_frozen BK125.out 0; have hfz117_1 := blk_frozen BK125.out 1; have hfz117_2 := blk_frozen BK125.out 2; have hfz117_3 := blk_frozen BK125.out 3; have hfz117_4 := blk_frozen BK125.out 4; have p149 : 0 ≤ (a1 : Int) := of_decide_eq_true (by first|(with_reducible assumption) | assumption); have q149 : a1 < (l0_0.length : Int) := of_decide_eq_true (by first|(with_reducible assumption) | assumption); obtain ⟨ad149, e149, hx149_0, hx149_1, hx149_2, hx149_3⟩ := at_T38 HR0_0.out a1 p149 q149; cases e149; replace hx149_0 := (HB.out.cell (World.block_lt_of_cell? w _ hx149_0)).trans hx149_0; replace hx149_1 := (HB.out.cell (World.block_lt_of_cell? w _ hx149_1)).trans hx149_1; replace hx149_2 := (HB.out.cell (World.block_lt_of_cell? w _ hx149_2)).trans hx149_2; replace hx149_3 := (HB.out.cell (World.block_lt_of_cell? w _ hx149_3)).trans hx149_3; replace p149 := eq_true p149; replace q149 := eq_true q149) | ((with_reducible refine gate_dst (N := 17) rfl ?_); refine box_event ?hg (N := 17) ?hd (cs := #[.int .i64 0, .string (⟨#[]⟩ : ByteArray), .int .i64 0, .int .i64 0]) (t := 38) ?hr ?_; (case hd => rfl); (case hg => rfl); (case hr => first | (go_simp; done) | (go_simp; rfl)); intro gb150 hg w118 hbox hb; have n0_ := Aside0.mk (blk_below (g := gb125) (o := .cells #[.slice (some ad149) l0_0.length c0_0, .slice A0_1 l0_1.length c0_1, .int .i64 a0_2, .string a0_3, .int .i64 a0_4] 58 (0, 0)) (by (with_reducible repeat(first|apply bN|apply bD)); exact BK125.out) hb); have n1_ := Aside0.mk (blk_below (g := gb126) (o := .cells #[.int .i64 x127000_17, .string x127001_17, .int .i64 x127002_17] 24 (0, 0)) (by (with_reducible repeat(first|apply bN|apply bD)); exact BK126.out) hb); have n2_ := Aside0.mk (below_step (by repeat (first|(with_reducible first | exact HB.out | apply below_alloc | apply pw_below_drewN | apply below_drew1 | refine below_set ?_ GE125.out | refine below_set ?_ GE126.out) | exact HB.out)) hb); have n3_ := Aside0.mk (hbox); have n4_ := Aside0.mk ((by rw [hg]; exact (below_size (by repeat (first|(with_reducible first | exact HB.out | apply below_alloc | apply pw_below_drewN | apply below_drew1 | refine below_set ?_ GE125.out | refine below_set ?_ GE126.out) | exact HB.out))) : w.heap.size ≤ gb150)); have n5_ := n4_; have n6_ := Aside0.mk ((by rw [hg]; exact Nat.ne_of_lt (blk_lt (g := gb125) (o := .cells #[.slice (some ad149) l0_0.length c0_0, .slice A0_1 l0_1.length c0_1, .int .i64 a0_2, .string a0_3, .int .i64 a0_4] 58 (0, 0)) (by (with_reducible repeat(first|apply bN|apply bD)); exact BK125.out)) : gb125 ≠ gb150)); have n7_ := Aside0.mk n6_.out.symm; have n8_ := Aside0.mk ((by rw [hg]; exact Nat.ne_of_lt (blk_lt (g := gb126) (o := .cells #[.int .i64 x127000_17, .string x127001_17, .int .i64 x127002_17] 24 (0, 0)) (by (with_reducible repeat(first|apply bN|apply bD)); exact BK126.out)) : gb126 ≠ gb150)); have n9_ := Aside0.mk n8_.out.symm; clear BK125; clear BK126; clear HB; have BK125 := n0_; have BK126 := n1_; have HB := n2_; have BK150 := n3_; have GW150 := n4_; have GE150 := n5_; have NB125_150 := n6_; have NB150_125 := n7_; have NB126_150 := n8_; have NB150_126 := n9_; clear n0_ n1_ n2_ n3_ n4_ n5_ n6_ n7_ n8_ n9_; clear hb hbox hg; have hnb119 := NB150_125.out; have hnc119 := NB125_150.out; have hnb120 := NB150_126.out; have hnc120 := NB126_150.out; have hcz121_0 : w118.cell? ⟨gb150, 0, none⟩ = some (.int .i64 0) := (blk_cell BK150.out 0).trans rfl; have hcz121_1 : w118.cell? ⟨gb150, 1, none⟩ = some (.string (⟨#[]⟩ : ByteArray)) := (blk_cell BK150.out 1).trans rfl; have hcz121_2 : w118.cell? ⟨gb150, 2, none⟩ = some (.int .i64 0) := (blk_cell BK150.out 2).trans rfl; have hcz121_3 : w118.cell? ⟨gb150, 3, none⟩ = some (.int .i64 0) := (blk_cell BK150.out 3).trans rfl; have hfz121_0 := blk_frozen BK150.out 0; have hfz121_1 := blk_frozen BK150.out 1; have hfz121_2 := blk_frozen BK150.out 2; have hfz121_3 := blk_frozen BK150.out 3; have hcz122_0 : w118.cell? ⟨gb126, 0, none⟩ = some (.int .i64 x127000_17) := (blk_cell BK126.out 0).trans rfl; have hcz122_1 : w118.cell? ⟨gb126, 1, none⟩ = some (.string x127001_17) := (blk_cell BK126.out 1).trans rfl; have hcz122_2 : w118.cell? ⟨gb126, 2, none⟩ = some (.int .i64 x127002_17) := (blk_cell BK126.out 2).trans rfl; have hfz122_0 := blk_frozen BK126.out 0; have hfz122_1 := blk_frozen BK126.out 1; have hfz122_2 := blk_frozen BK126.out 2))
           refine bodyPost_ret (results_ctt rfl _ _ gb126 24 #[.int .i64 0, .string (⟨#[]⟩ : ByteArray), .int .i64 (Go.bits .and .i64 ((rd_T38 l0_0 a1).f2) 65535)] (0, 0) _ rfl (by (with_reducible repeat(first|apply bN|apply bD)); refine blk_put (cs := #[.int .i64 0, .string (⟨#[]⟩ : ByteArray), .int .i64 x127002_17]) ?_ 2 _ rfl; (with_reducible repeat(first|apply bN|apply bD)); refine blk_put (cs := #[.int .i64 0, .string x127001_17, .int .i64 x127002_17]) ?_ 1 _ rfl; (with_reducible repeat(first|apply bN|apply bD)); refine blk_put (cs := #[.int .i64 x127000_17, .string x127001_17, .int .i64 x127002_17]) ?_ 0 _ rfl; (with_reducible repeat(first|apply bN|apply bD)); refine blk_far ?_ NB126_150.out _; (with_reducible repeat(first|apply bN|apply bD)); refine blk_far ?_ NB126_150.out _; (with_reducible repeat(first|apply bN|apply bD)); refine blk_far ?_ NB126_150.out _; (with_reducible repeat(first|apply bN|apply bD)); refine blk_far ?_ NB126_150.out _; (with_reducible repeat(first|apply bN|apply bD)); exact BK126.out) Try.underlying24 rfl (by kernel_rfl)) rfl ?_
           exact ⟨by first | rfl | (simp [errW_none, errW_some] <;> rfl) | (simp [*, errW_none, errW_some] <;> rfl), by repeat (first|(with_reducible first | exact HB.out | apply below_alloc | apply pw_below_drewN | apply below_drew1 | refine below_set ?_ GE125.out | refine below_set ?_ GE126.out | refine below_set ?_ GE150.out) | exact HB.out)⟩
          ·rw [if_neg c111] at H
           have c111b0 : (((rd_T38 l0_0 a1).f0) == 2) = false := beq_eq_false_iff_ne.mpr c111
           have c111b1 : (((rd_T38 l0_0 a1).f0) != 2) = true := bne_iff_ne.mpr c111
           have HC123 := Aside0.mk H
           clear H
           have hnb124 := NB125_126.out
           have hnc124 := NB126_125.out
           have hcz125_0 : wc.cell? ⟨gb125, 0, none⟩ = some (.slice A0_0 l0_0.length c0_0) := (blk_cell BK125.out 0).trans rfl
           have hcz125_1 : wc.cell? ⟨gb125, 1, none⟩ = some (.slice A0_1 l0_1.length c0_1) := (blk_cell BK125.out 1).trans rfl
           have hcz125_2 : wc.cell? ⟨gb125, 2, none⟩ = some (.int .i64 a0_2) := (blk_cell BK125.out 2).trans rfl
           have hcz125_3 : wc.cell? ⟨gb125, 3, none⟩ = some (.string a0_3) := (blk_cell BK125.out 3).trans rfl
           have hcz125_4 : wc.cell? ⟨gb125, 4, none⟩ = some (.int .i64 a0_4) := (blk_cell BK125.out 4).trans rfl
           have hfz125_0 := blk_frozen BK125.out 0
           have hfz125_1 := blk_frozen BK125.out 1
           have hfz125_2 := blk_frozen BK125.out 2
           have hfz125_3 := blk_frozen BK125.out 3
           have hfz125_4 := blk_frozen BK125.out 4
           go_upto_region 22 with (first | ((with_reducible refine gate_callee (f := 50) rfl ?_); refine goesL_ (some 31) rfl rfl Try.func50 (by kernel_rfl) rfl #[.agg #[.slice A0_0 l0_0.length c0_0, .slice A0_1 l0_1.length c0_1, .int .i64 a0_2, .string a0_3, .int .i64 a0_4], .int .i64 a1, .string (⟨#[45]⟩ : ByteArray)] rfl (by (try simp only [List.map_toArray, List.map_cons, List.map_nil]); first | done | rfl | (simp only [List.length_drop, List.length_take]; rfl)) ?_; (with_reducible refine (emulatorref26_scope_is.calls _ _ l0_0 _ _ l0_1 a0_2 a0_3 a0_4 a1 (⟨#[45]⟩ : ByteArray) false _ ?side1 ?side2 ?side3 ?side4 A23.out).mono ?_); (case side1 => repeat (first | exact (Kd.C_below HR0_0.out HB.out)|(with_reducible refine Kd.C_alloc ?_ _)|(with_reducible refine Kd.C_drewN ?_ _)|(with_reducible refine Kd.C_drew ?_))); (case side2 => exact HC0_0.out); (case side3 => repeat (first | exact (Kd.C_below HR0_1.out HB.out)|(with_reducible refine Kd.C_alloc ?_ _)|(with_reducible refine Kd.C_drewN ?_ _)|(with_reducible refine Kd.C_drew ?_))); (case side4 => exact HC0_1.out); rintro e w126 ⟨rfl, hb⟩; refine ⟨_, rfl, ?_⟩; have n0_ := Aside0.mk (blk_below (g := gb125) (o := .cells #[.slice A0_0 l0_0.length c0_0, .slice A0_1 l0_1.length c0_1, .int .i64 a0_2, .string a0_3, .int .i64 a0_4] 58 (0, 0)) (by (with_reducible repeat(first|apply bN|apply bD)); exact BK125.out) hb); have n1_ := Aside0.mk (blk_below (g := gb126) (o := .cells #[.int .i64 x127000_17, .string x127001_17, .int .i64 x127002_17] 24 (0, 0)) (by (with_reducible repeat(first|apply bN|apply bD)); exact BK126.out) hb); have n2_ := Aside0.mk (below_step (by repeat (first|(with_reducible first | exact HB.out | apply below_alloc | apply pw_below_drewN | apply below_drew1 | refine below_set ?_ GE125.out | refine below_set ?_ GE126.out) | exact HB.out)) hb); clear BK125; clear BK126; clear HB; have BK125 := n0_; have BK126 := n1_; have HB := n2_; clear n0_ n1_ n2_; (try clear hb); (try clear hb2); (try clear hk); (try clear hi); have hcz127_0 : w126.cell? ⟨gb125, 0, none⟩ = some (.slice A0_0 l0_0.length c0_0) := (blk_cell BK125.out 0).trans rfl; have hcz127_1 : w126.cell? ⟨gb125, 1, none⟩ = some (.slice A0_1 l0_1.length c0_1) := (blk_cell BK125.out 1).trans rfl; have hcz127_2 : w126.cell? ⟨gb125, 2, none⟩ = some (.int .i64 a0_2) := (blk_cell BK125.out 2).trans rfl; have hcz127_3 : w126.cell? ⟨gb125, 3, none⟩ = some (.string a0_3) := (blk_cell BK125.out 3).trans rfl; have hcz127_4 : w126.cell? ⟨gb125, 4, none⟩ = some (.int .i64 a0_4) := (blk_cell BK125.out 4).trans rfl; have hfz127_0 := blk_frozen BK125.out 0; have hfz127_1 := blk_frozen BK125.out 1; have hfz127_2 := blk_frozen BK125.out 2; have hfz127_3 := blk_frozen BK125.out 3; have hfz127_4 := blk_frozen BK125.out 4) | ((with_reducible refine gate_callee (f := 50) rfl ?_); refine goesL_ (some 57) rfl rfl Try.func50 (by kernel_rfl) rfl #[.agg #[.slice A0_0 l0_0.length c0_0, .slice A0_1 l0_1.length c0_1, .int .i64 a0_2, .string a0_3, .int .i64 a0_4], .int .i64 a1, .string (⟨#[40]⟩ : ByteArray)] rfl (by (try simp only [List.map_toArray, List.map_cons, List.map_nil]); first | done | rfl | (simp only [List.length_drop, List.length_take]; rfl)) ?_; (with_reducible refine (emulatorref26_scope_is.calls _ _ l0_0 _ _ l0_1 a0_2 a0_3 a0_4 a1 (⟨#[40]⟩ : ByteArray) false _ ?side1 ?side2 ?side3 ?side4 A54.out).mono ?_); (case side1 => repeat (first | exact (Kd.C_below HR0_0.out HB.out)|(with_reducible refine Kd.C_alloc ?_ _)|(with_reducible refine Kd.C_drewN ?_ _)|(with_reducible refine Kd.C_drew ?_))); (case side2 => exact HC0_0.out); (case side3 => repeat (first | exact (Kd.C_below HR0_1.out HB.out)|(with_reducible refine Kd.C_alloc ?_ _)|(with_reducible refine Kd.C_drewN ?_ _)|(with_reducible refine Kd.C_drew ?_))); (case side4 => exact HC0_1.out); rintro e w128 ⟨rfl, hb⟩; refine ⟨_, rfl, ?_⟩; have n0_ := Aside0.mk (blk_below (g := gb125) (o := .cells #[.slice A0_0 l0_0.length c0_0, .slice A0_1 l0_1.length c0_1, .int .i64 a0_2, .string a0_3, .int .i64 a0_4] 58 (0, 0)) (by (with_reducible repeat(first|apply bN|apply bD)); exact BK125.out) hb); have n1_ := Aside0.mk (blk_below (g := gb126) (o := .cells #[.int .i64 x127000_17, .string x127001_17, .int .i64 x127002_17] 24 (0, 0)) (by (with_reducible repeat(first|apply bN|apply bD)); exact BK126.out) hb); have n2_ := Aside0.mk (below_step (by repeat (first|(with_reducible first | exact HB.out | apply below_alloc | apply pw_below_drewN | apply below_drew1 | refine below_set ?_ GE125.out | refine below_set ?_ GE126.out) | exact HB.out)) hb); clear BK125; clear BK126; clear HB; have BK125 := n0_; have BK126 := n1_; have HB := n2_; clear n0_ n1_ n2_; (try clear hb); (try clear hb2); (try clear hk); (try clear hi); have hcz129_0 : w128.cell? ⟨gb125, 0, none⟩ = some (.slice A0_0 l0_0.length c0_0) := (blk_cell BK125.out 0).trans rfl; have hcz129_1 : w128.cell? ⟨gb125, 1, none⟩ = some (.slice A0_1 l0_1.length c0_1) := (blk_cell BK125.out 1).trans rfl; have hcz129_2 : w128.cell? ⟨gb125, 2, none⟩ = some (.int .i64 a0_2) := (blk_cell BK125.out 2).trans rfl; have hcz129_3 : w128.cell? ⟨gb125, 3, none⟩ = some (.string a0_3) := (blk_cell BK125.out 3).trans rfl; have hcz129_4 : w128.cell? ⟨gb125, 4, none⟩ = some (.int .i64 a0_4) := (blk_cell BK125.out 4).trans rfl; have hfz129_0 := blk_frozen BK125.out 0; have hfz129_1 := blk_frozen BK125.out 1; have hfz129_2 := blk_frozen BK125.out 2; have hfz129_3 := blk_frozen BK125.out 3; have hfz129_4 := blk_frozen BK125.out 4; have p149 : 0 ≤ (a1 : Int) := of_decide_eq_true (by first|(with_reducible assumption) | assumption); have q149 : a1 < (l0_0.length : Int) := of_decide_eq_true (by first|(with_reducible assumption) | assumption); obtain ⟨ad149, e149, hx149_0, hx149_1, hx149_2, hx149_3⟩ := at_T38 HR0_0.out a1 p149 q149; cases e149; replace hx149_0 := (HB.out.cell (World.block_lt_of_cell? w _ hx149_0)).trans hx149_0; replace hx149_1 := (HB.out.cell (World.block_lt_of_cell? w _ hx149_1)).trans hx149_1; replace hx149_2 := (HB.out.cell (World.block_lt_of_cell? w _ hx149_2)).trans hx149_2; replace hx149_3 := (HB.out.cell (World.block_lt_of_cell? w _ hx149_3)).trans hx149_3; replace p149 := eq_true p149; replace q149 := eq_true q149) | ((with_reducible refine gate_dst (N := 17) rfl ?_); refine box_event ?hg (N := 17) ?hd (cs := #[.int .i64 0, .string (⟨#[]⟩ : ByteArray), .int .i64 0, .int .i64 0]) (t := 38) ?hr ?_; (case hd => rfl); (case hg => rfl); (case hr => first | (go_simp; done) | (go_simp; rfl)); intro gb150 hg w130 hbox hb; have n0_ := Aside0.mk (blk_below (g := gb125) (o := .cells #[.slice (some ad149) l0_0.length c0_0, .slice A0_1 l0_1.length c0_1, .int .i64 a0_2, .string a0_3, .int .i64 a0_4] 58 (0, 0)) (by (with_reducible repeat(first|apply bN|apply bD)); exact BK125.out) hb); have n1_ := Aside0.mk (blk_below (g := gb126) (o := .cells #[.int .i64 x127000_17, .string x127001_17, .int .i64 x127002_17] 24 (0, 0)) (by (with_reducible repeat(first|apply bN|apply bD)); exact BK126.out) hb); have n2_ := Aside0.mk (below_step (by repeat (first|(with_reducible first | exact HB.out | apply below_alloc | apply pw_below_drewN | apply below_drew1 | refine below_set ?_ GE125.out | refine below_set ?_ GE126.out) | exact HB.out)) hb); have n3_ := Aside0.mk (hbox); have n4_ := Aside0.mk ((by rw [hg]; exact (below_size (by repeat (first|(with_reducible first | exact HB.out | apply below_alloc | apply pw_below_drewN | apply below_drew1 | refine below_set ?_ GE125.out | refine below_set ?_ GE126.out) | exact HB.out))) : w.heap.size ≤ gb150)); have n5_ := n4_; have n6_ := Aside0.mk ((by rw [hg]; exact Nat.ne_of_lt (blk_lt (g := gb125) (o := .cells #[.slice (some ad149) l0_0.length c0_0, .slice A0_1 l0_1.length c0_1, .int .i64 a0_2, .string a0_3, .int .i64 a0_4] 58 (0, 0)) (by (with_reducible repeat(first|apply bN|apply bD)); exact BK125.out)) : gb125 ≠ gb150)); have n7_ := Aside0.mk n6_.out.symm; have n8_ := Aside0.mk ((by rw [hg]; exact Nat.ne_of_lt (blk_lt (g := gb126) (o := .cells #[.int .i64 x127000_17, .string x127001_17, .int .i64 x127002_17] 24 (0, 0)) (by (with_reducible repeat(first|apply bN|apply bD)); exact BK126.out)) : gb126 ≠ gb150)); have n9_ := Aside0.mk n8_.out.symm; clear BK125; clear BK126; clear HB; have BK125 := n0_; have BK126 := n1_; have HB := n2_; have BK150 := n3_; have GW150 := n4_; have GE150 := n5_; have NB125_150 := n6_; have NB150_125 := n7_; have NB126_150 := n8_; have NB150_126 := n9_; clear n0_ n1_ n2_ n3_ n4_ n5_ n6_ n7_ n8_ n9_; clear hb hbox hg; have hnb131 := NB150_125.out; have hnc131 := NB125_150.out; have hnb132 := NB150_126.out; have hnc132 := NB126_150.out; have hcz133_0 : w130.cell? ⟨gb150, 0, none⟩ = some (.int .i64 0) := (blk_cell BK150.out 0).trans rfl; have hcz133_1 : w130.cell? ⟨gb150, 1, none⟩ = some (.string (⟨#[]⟩ : ByteArray)) := (blk_cell BK150.out 1).trans rfl; have hcz133_2 : w130.cell? ⟨gb150, 2, none⟩ = some (.int .i64 0) := (blk_cell BK150.out 2).trans rfl; have hcz133_3 : w130.cell? ⟨gb150, 3, none⟩ = some (.int .i64 0) := (blk_cell BK150.out 3).trans rfl; have hfz133_0 := blk_frozen BK150.out 0; have hfz133_1 := blk_frozen BK150.out 1; have hfz133_2 := blk_frozen BK150.out 2; have hfz133_3 := blk_frozen BK150.out 3))
           (try simp only [Act.put, List.setIfInBounds_toArray, List.set_cons_zero, List.set_cons_succ])
           go_cut [107] (fun v107 wc => ∃ (kq : Nat) (x107_122 : Bool), v107 = .bool x107_122 ∧ Aside0 (rterm36.j2 D kq a1 x107_122 l0_0 l0_1 a0_2 a0_3 a0_4 ((rd_T38 l0_0 a1).f0) ((rd_T38 l0_0 a1).f1) ((rd_T38 l0_0 a1).f2) ((rd_T38 l0_0 a1).f3) = some (r1, r2, r3, r4, r5)) ∧ Aside0 (kq ≤ kj17) ∧ Aside0 (wc.heap[gb125]? = some (.cells #[(.slice (some ad149) l0_0.length c0_0), (.slice A0_1 l0_1.length c0_1), .int .i64 a0_2, .string a0_3, .int .i64 a0_4] 58 (0, 0))) ∧ Aside0 (wc.heap[gb126]? = some (.cells #[.int .i64 x127000_17, .string x127001_17, .int .i64 x127002_17] 24 (0, 0))) ∧ Aside0 (wc.heap[gb150]? = some (.cells #[.int .i64 ((rd_T38 l0_0 a1).f0), .string ((rd_T38 l0_0 a1).f1), .int .i64 ((rd_T38 l0_0 a1).f2), .int .i64 ((rd_T38 l0_0 a1).f3)] 38 (0, 0))) ∧ Aside0 (Below w.heap.size w wc))
           case first =>
            have H := HC123.out
            clear HC123
            by_cases c134 : ((rd_T38 l0_0 a1).f0) = 1
            ·rw [if_pos c134] at H
             have c134b0 : (((rd_T38 l0_0 a1).f0) == 1) = true := beq_iff_eq.mpr c134
             have c134b1 : (((rd_T38 l0_0 a1).f0) != 1) = false := bne_eq_false_iff_eq.mpr c134
             clear c134
             (first | rw [c134b0] | (simp only [i64_w, i32_w]; rw [c134b0]) | skip)
             have H' := Aside0.mk H
             clear H
             have hnb135 := NB150_125.out
             have hnc135 := NB125_150.out
             have hnb136 := NB150_126.out
             have hnc136 := NB126_150.out
             have hcz137_0 : w130.cell? ⟨gb150, 0, none⟩ = some (.int .i64 0) := (blk_cell BK150.out 0).trans rfl
             have hcz137_1 : w130.cell? ⟨gb150, 1, none⟩ = some (.string (⟨#[]⟩ : ByteArray)) := (blk_cell BK150.out 1).trans rfl
             have hcz137_2 : w130.cell? ⟨gb150, 2, none⟩ = some (.int .i64 0) := (blk_cell BK150.out 2).trans rfl
             have hcz137_3 : w130.cell? ⟨gb150, 3, none⟩ = some (.int .i64 0) := (blk_cell BK150.out 3).trans rfl
             have hfz137_0 := blk_frozen BK150.out 0
             have hfz137_1 := blk_frozen BK150.out 1
             have hfz137_2 := blk_frozen BK150.out 2
             have hfz137_3 := blk_frozen BK150.out 3
             go_wp2
             go_meet
             case rel => exact ⟨_, ((((rd_T38 l0_0 a1).f1).toList == ([46] : List UInt8))), (by first | rfl | (simp; done) | (simp [*]; done)), H', ⟨by have := HJ3.out; have := HJ17.out; first | omega | exact Nat.le_refl _⟩, ⟨by (with_reducible repeat(first|apply bN|apply bD)); refine blk_far ?_ NB125_150.out _; (with_reducible repeat(first|apply bN|apply bD)); refine blk_far ?_ NB125_150.out _; (with_reducible repeat(first|apply bN|apply bD)); refine blk_far ?_ NB125_150.out _; (with_reducible repeat(first|apply bN|apply bD)); refine blk_far ?_ NB125_150.out _; (with_reducible repeat(first|apply bN|apply bD)); exact BK125.out⟩, ⟨by (with_reducible repeat(first|apply bN|apply bD)); refine blk_far ?_ NB126_150.out _; (with_reducible repeat(first|apply bN|apply bD)); refine blk_far ?_ NB126_150.out _; (with_reducible repeat(first|apply bN|apply bD)); refine blk_far ?_ NB126_150.out _; (with_reducible repeat(first|apply bN|apply bD)); refine blk_far ?_ NB126_150.out _; (with_reducible repeat(first|apply bN|apply bD)); exact BK126.out⟩, ⟨by (with_reducible repeat(first|apply bN|apply bD)); refine blk_put (cs := #[.int .i64 ((rd_T38 l0_0 a1).f0), .string ((rd_T38 l0_0 a1).f1), .int .i64 ((rd_T38 l0_0 a1).f2), .int .i64 0]) ?_ 3 _ rfl; (with_reducible repeat(first|apply bN|apply bD)); refine blk_put (cs := #[.int .i64 ((rd_T38 l0_0 a1).f0), .string ((rd_T38 l0_0 a1).f1), .int .i64 0, .int .i64 0]) ?_ 2 _ rfl; (with_reducible repeat(first|apply bN|apply bD)); refine blk_put (cs := #[.int .i64 ((rd_T38 l0_0 a1).f0), .string (⟨#[]⟩ : ByteArray), .int .i64 0, .int .i64 0]) ?_ 1 _ rfl; (with_reducible repeat(first|apply bN|apply bD)); refine blk_put (cs := #[.int .i64 0, .string (⟨#[]⟩ : ByteArray), .int .i64 0, .int .i64 0]) ?_ 0 _ rfl; (with_reducible repeat(first|apply bN|apply bD)); exact BK150.out⟩, ⟨by repeat (first|(with_reducible first | exact HB.out | apply below_alloc | apply pw_below_drewN | apply below_drew1 | refine below_set ?_ GE125.out | refine below_set ?_ GE126.out | refine below_set ?_ GE150.out) | exact HB.out)⟩⟩
            ·rw [if_neg c134] at H
             have c134b0 : (((rd_T38 l0_0 a1).f0) == 1) = false := beq_eq_false_iff_ne.mpr c134
             have c134b1 : (((rd_T38 l0_0 a1).f0) != 1) = true := bne_iff_ne.mpr c134
             (first | rw [c134b0] | (simp only [i64_w, i32_w]; rw [c134b0]) | skip)
             have H' := Aside0.mk H
             clear H
             have hnb138 := NB150_125.out
             have hnc138 := NB125_150.out
             have hnb139 := NB150_126.out
             have hnc139 := NB126_150.out
             have hcz140_0 : w130.cell? ⟨gb150, 0, none⟩ = some (.int .i64 0) := (blk_cell BK150.out 0).trans rfl
             have hcz140_1 : w130.cell? ⟨gb150, 1, none⟩ = some (.string (⟨#[]⟩ : ByteArray)) := (blk_cell BK150.out 1).trans rfl
             have hcz140_2 : w130.cell? ⟨gb150, 2, none⟩ = some (.int .i64 0) := (blk_cell BK150.out 2).trans rfl
             have hcz140_3 : w130.cell? ⟨gb150, 3, none⟩ = some (.int .i64 0) := (blk_cell BK150.out 3).trans rfl
             have hfz140_0 := blk_frozen BK150.out 0
             have hfz140_1 := blk_frozen BK150.out 1
             have hfz140_2 := blk_frozen BK150.out 2
             have hfz140_3 := blk_frozen BK150.out 3
             go_wp2
             go_meet
             case rel => exact ⟨_, (false), (by first | rfl | (simp; done) | (simp [*]; done)), H', ⟨by have := HJ3.out; have := HJ17.out; first | omega | exact Nat.le_refl _⟩, ⟨by (with_reducible repeat(first|apply bN|apply bD)); refine blk_far ?_ NB125_150.out _; (with_reducible repeat(first|apply bN|apply bD)); refine blk_far ?_ NB125_150.out _; (with_reducible repeat(first|apply bN|apply bD)); refine blk_far ?_ NB125_150.out _; (with_reducible repeat(first|apply bN|apply bD)); refine blk_far ?_ NB125_150.out _; (with_reducible repeat(first|apply bN|apply bD)); exact BK125.out⟩, ⟨by (with_reducible repeat(first|apply bN|apply bD)); refine blk_far ?_ NB126_150.out _; (with_reducible repeat(first|apply bN|apply bD)); refine blk_far ?_ NB126_150.out _; (with_reducible repeat(first|apply bN|apply bD)); refine blk_far ?_ NB126_150.out _; (with_reducible repeat(first|apply bN|apply bD)); refine blk_far ?_ NB126_150.out _; (with_reducible repeat(first|apply bN|apply bD)); exact BK126.out⟩, ⟨by (with_reducible repeat(first|apply bN|apply bD)); refine blk_put (cs := #[.int .i64 ((rd_T38 l0_0 a1).f0), .string ((rd_T38 l0_0 a1).f1), .int .i64 ((rd_T38 l0_0 a1).f2), .int .i64 0]) ?_ 3 _ rfl; (with_reducible repeat(first|apply bN|apply bD)); refine blk_put (cs := #[.int .i64 ((rd_T38 l0_0 a1).f0), .string ((rd_T38 l0_0 a1).f1), .int .i64 0, .int .i64 0]) ?_ 2 _ rfl; (with_reducible repeat(first|apply bN|apply bD)); refine blk_put (cs := #[.int .i64 ((rd_T38 l0_0 a1).f0), .string (⟨#[]⟩ : ByteArray), .int .i64 0, .int .i64 0]) ?_ 1 _ rfl; (with_reducible repeat(first|apply bN|apply bD)); refine blk_put (cs := #[.int .i64 0, .string (⟨#[]⟩ : ByteArray), .int .i64 0, .int .i64 0]) ?_ 0 _ rfl; (with_reducible repeat(first|apply bN|apply bD)); exact BK150.out⟩, ⟨by repeat (first|(with_reducible first | exact HB.out | apply below_alloc | apply pw_below_drewN | apply below_drew1 | refine below_set ?_ GE125.out | refine below_set ?_ GE126.out | refine below_set ?_ GE150.out) | exact HB.out)⟩⟩
           case rest =>
            clear HC123
            try clear c1
            try clear p1
            try clear q1
            try clear hx1
            try clear c2
            try clear p2
            try clear c3
            try clear c4
            try clear c5
            try clear c6
            try clear p6
            try clear c7
            try clear c8
            try clear c9
            try clear c10
            try clear c11
            try clear c12
            try clear c13
            try clear p14
            try clear q14
            try clear hx14
            try clear c19
            try clear c20
            try clear c20b0
            try clear c21
            try clear c22
            try clear c24
            try clear c26
            try clear c26b0
            try clear c26b1
            try clear c27
            try clear c28
            try clear c34
            try clear c35
            try clear c36
            try clear c39
            try clear c40
            try clear c41
            try clear c44
            try clear c50
            try clear c51
            try clear c55
            try clear c57
            try clear c57b0
            try clear c57b1
            try clear c59
            try clear c60
            try clear p64
            try clear c68
            try clear c69
            try clear c75
            try clear c83
            try clear c84
            try clear c89
            try clear c97
            try clear c98
            try clear c101
            try clear c101b0
            try clear c102
            try clear c109
            try clear c109b0
            try clear c110
            try clear c110b0
            try clear c111
            try clear c111b0
            try clear c111b1
            try clear c112
            try clear c119
            try clear c120
            try clear c124
            try clear c131
            try clear c132
            try clear c134
            try clear c134b0
            try clear c134b1
            try clear c135
            try clear c136
            try clear c138
            try clear c139
            try clear hcz100_0
            try clear hcz100_1
            try clear hcz100_2
            try clear hcz103_0
            try clear hcz103_1
            try clear hcz103_2
            try clear hcz103_3
            try clear hcz103_4
            try clear hcz105_0
            try clear hcz105_1
            try clear hcz105_2
            try clear hcz105_3
            try clear hcz105_4
            try clear hcz107_0
            try clear hcz107_1
            try clear hcz107_2
            try clear hcz107_3
            try clear hcz107_4
            try clear hcz108_0
            try clear hcz108_1
            try clear hcz108_2
            try clear hcz10_0
            try clear hcz10_1
            try clear hcz10_2
            try clear hcz10_3
            try clear hcz10_4
            try clear hcz113_0
            try clear hcz113_1
            try clear hcz113_2
            try clear hcz113_3
            try clear hcz113_4
            try clear hcz115_0
            try clear hcz115_1
            try clear hcz115_2
            try clear hcz115_3
            try clear hcz115_4
            try clear hcz117_0
            try clear hcz117_1
            try clear hcz117_2
            try clear hcz117_3
            try clear hcz117_4
            try clear hcz121_0
            try clear hcz121_1
            try clear hcz121_2
            try clear hcz121_3
            try clear hcz122_0
            try clear hcz122_1
            try clear hcz122_2
            try clear hcz125_0
            try clear hcz125_1
            try clear hcz125_2
            try clear hcz125_3
            try clear hcz125_4
            try clear hcz127_0
            try clear hcz127_1
            try clear hcz127_2
            try clear hcz127_3
            try clear hcz127_4
            try clear hcz129_0
            try clear hcz129_1
            try clear hcz129_2
            try clear hcz129_3
            try clear hcz129_4
            try clear hcz133_0
            try clear hcz133_1
            try clear hcz133_2
            try clear hcz133_3
            try clear hcz137_0
            try clear hcz137_1
            try clear hcz137_2
            try clear hcz137_3
            try clear hcz140_0
            try clear hcz140_1
            try clear hcz140_2
            try clear hcz140_3
            try clear hcz14_0
            try clear hcz14_1
            try clear hcz14_2
            try clear hcz14_3
            try clear hcz14_4
            try clear hcz16_0
            try clear hcz16_1
            try clear hcz16_2
            try clear hcz16_3
            try clear hcz16_4
            try clear hcz22_0
            try clear hcz22_1
            try clear hcz22_2
            try clear hcz29_0
            try clear hcz29_1
            try clear hcz29_2
            try clear hcz29_3
            try clear hcz29_4
            try clear hcz31_0
            try clear hcz31_1
            try clear hcz31_2
            try clear hcz31_3
            try clear hcz31_4
            try clear hcz36_0
            try clear hcz36_1
            try clear hcz36_2
            try clear hcz42_0
            try clear hcz42_1
            try clear hcz42_2
            try clear hcz43_0
            try clear hcz43_1
            try clear hcz43_2
            try clear hcz45_0
            try clear hcz45_1
            try clear hcz45_2
            try clear hcz45_3
            try clear hcz45_4
            try clear hcz47_0
            try clear hcz47_1
            try clear hcz47_2
            try clear hcz47_3
            try clear hcz47_4
            try clear hcz52_0
            try clear hcz52_1
            try clear hcz52_2
            try clear hcz53_0
            try clear hcz53_1
            try clear hcz53_2
            try clear hcz61_0
            try clear hcz61_1
            try clear hcz61_2
            try clear hcz61_3
            try clear hcz61_4
            try clear hcz63_0
            try clear hcz63_1
            try clear hcz63_2
            try clear hcz63_3
            try clear hcz63_4
            try clear hcz65_0
            try clear hcz65_1
            try clear hcz65_2
            try clear hcz65_3
            try clear hcz65_4
            try clear hcz70_0
            try clear hcz70_1
            try clear hcz70_2
            try clear hcz71_0
            try clear hcz71_1
            try clear hcz71_2
            try clear hcz71_3
            try clear hcz71_4
            try clear hcz73_0
            try clear hcz73_1
            try clear hcz73_2
            try clear hcz74_0
            try clear hcz74_1
            try clear hcz74_2
            try clear hcz76_0
            try clear hcz76_1
            try clear hcz76_2
            try clear hcz76_3
            try clear hcz76_4
            try clear hcz78_0
            try clear hcz78_1
            try clear hcz78_2
            try clear hcz78_3
            try clear hcz78_4
            try clear hcz80_0
            try clear hcz80_1
            try clear hcz80_2
            try clear hcz80_3
            try clear hcz80_4
            try clear hcz85_0
            try clear hcz85_1
            try clear hcz85_2
            try clear hcz86_0
            try clear hcz86_1
            try clear hcz86_2
            try clear hcz86_3
            try clear hcz86_4
            try clear hcz88_0
            try clear hcz88_1
            try clear hcz88_2
            try clear hcz90_0
            try clear hcz90_1
            try clear hcz90_2
            try clear hcz90_3
            try clear hcz90_4
            try clear hcz92_0
            try clear hcz92_1
            try clear hcz92_2
            try clear hcz92_3
            try clear hcz92_4
            try clear hcz94_0
            try clear hcz94_1
            try clear hcz94_2
            try clear hcz94_3
            try clear hcz94_4
            try clear hcz99_0
            try clear hcz99_1
            try clear hcz99_2
            try clear hfz100_0
            try clear hfz100_1
            try clear hfz100_2
            try clear hfz103_0
            try clear hfz103_1
            try clear hfz103_2
            try clear hfz103_3
            try clear hfz103_4
            try clear hfz105_0
            try clear hfz105_1
            try clear hfz105_2
            try clear hfz105_3
            try clear hfz105_4
            try clear hfz107_0
            try clear hfz107_1
            try clear hfz107_2
            try clear hfz107_3
            try clear hfz107_4
            try clear hfz108_0
            try clear hfz108_1
            try clear hfz108_2
            try clear hfz10_0
            try clear hfz10_1
            try clear hfz10_2
            try clear hfz10_3
            try clear hfz10_4
            try clear hfz113_0
            try clear hfz113_1
            try clear hfz113_2
            try clear hfz113_3
            try clear hfz113_4
            try clear hfz115_0
            try clear hfz115_1
            try clear hfz115_2
            try clear hfz115_3
            try clear hfz115_4
            try clear hfz117_0
            try clear hfz117_1
            try clear hfz117_2
            try clear hfz117_3
            try clear hfz117_4
            try clear hfz121_0
            try clear hfz121_1
            try clear hfz121_2
            try clear hfz121_3
            try clear hfz122_0
            try clear hfz122_1
            try clear hfz122_2
            try clear hfz125_0
            try clear hfz125_1
            try clear hfz125_2
            try clear hfz125_3
            try clear hfz125_4
            try clear hfz127_0
            try clear hfz127_1
            try clear hfz127_2
            try clear hfz127_3
            try clear hfz127_4
            try clear hfz129_0
            try clear hfz129_1
            try clear hfz129_2
            try clear hfz129_3
            try clear hfz129_4
            try clear hfz133_0
            try clear hfz133_1
            try clear hfz133_2
            try clear hfz133_3
            try clear hfz137_0
            try clear hfz137_1
            try clear hfz137_2
            try clear hfz137_3
            try clear hfz140_0
            try clear hfz140_1
            try clear hfz140_2
            try clear hfz140_3
            try clear hfz14_0
            try clear hfz14_1
            try clear hfz14_2
            try clear hfz14_3
            try clear hfz14_4
            try clear hfz16_0
            try clear hfz16_1
            try clear hfz16_2
            try clear hfz16_3
            try clear hfz16_4
            try clear hfz22_0
            try clear hfz22_1
            try clear hfz22_2
            try clear hfz29_0
            try clear hfz29_1
            try clear hfz29_2
            try clear hfz29_3
            try clear hfz29_4
            try clear hfz31_0
            try clear hfz31_1
            try clear hfz31_2
            try clear hfz31_3
            try clear hfz31_4
            try clear hfz36_0
            try clear hfz36_1
            try clear hfz36_2
            try clear hfz42_0
            try clear hfz42_1
            try clear hfz42_2
            try clear hfz43_0
            try clear hfz43_1
            try clear hfz43_2
            try clear hfz45_0
            try clear hfz45_1
            try clear hfz45_2
            try clear hfz45_3
            try clear hfz45_4
            try clear hfz47_0
            try clear hfz47_1
            try clear hfz47_2
            try clear hfz47_3
            try clear hfz47_4
            try clear hfz52_0
            try clear hfz52_1
            try clear hfz52_2
            try clear hfz53_0
            try clear hfz53_1
            try clear hfz53_2
            try clear hfz61_0
            try clear hfz61_1
            try clear hfz61_2
            try clear hfz61_3
            try clear hfz61_4
            try clear hfz63_0
            try clear hfz63_1
            try clear hfz63_2
            try clear hfz63_3
            try clear hfz63_4
            try clear hfz65_0
            try clear hfz65_1
            try clear hfz65_2
            try clear hfz65_3
            try clear hfz65_4
            try clear hfz70_0
            try clear hfz70_1
            try clear hfz70_2
            try clear hfz71_0
            try clear hfz71_1
            try clear hfz71_2
            try clear hfz71_3
            try clear hfz71_4
            try clear hfz73_0
            try clear hfz73_1
            try clear hfz73_2
            try clear hfz74_0
            try clear hfz74_1
            try clear hfz74_2
            try clear hfz76_0
            try clear hfz76_1
            try clear hfz76_2
            try clear hfz76_3
            try clear hfz76_4
            try clear hfz78_0
            try clear hfz78_1
            try clear hfz78_2
            try clear hfz78_3
            try clear hfz78_4
            try clear hfz80_0
            try clear hfz80_1
            try clear hfz80_2
            try clear hfz80_3
            try clear hfz80_4
            try clear hfz85_0
            try clear hfz85_1
            try clear hfz85_2
            try clear hfz86_0
            try clear hfz86_1
            try clear hfz86_2
            try clear hfz86_3
            try clear hfz86_4
            try clear hfz88_0
            try clear hfz88_1
            try clear hfz88_2
            try clear hfz90_0
            try clear hfz90_1
            try clear hfz90_2
            try clear hfz90_3
            try clear hfz90_4
            try clear hfz92_0
            try clear hfz92_1
            try clear hfz92_2
            try clear hfz92_3
            try clear hfz92_4
            try clear hfz94_0
            try clear hfz94_1
            try clear hfz94_2
            try clear hfz94_3
            try clear hfz94_4
            try clear hfz99_0
            try clear hfz99_1
            try clear hfz99_2
            try clear hx149_0
            try clear hx149_1
            try clear hx149_2
            try clear hx149_3
            try clear p149
            try clear p2
            try clear q149
            obtain ⟨kq, x107_122, rfl, HA, HJ122, BK125, BK126, BK150, HB⟩ := hcut
            cases kq with
            | zero => exact absurd HA.out (by simp [rterm36.j2])
            | succ kj122 =>
             have H := HA.out
             clear HA
             simp only [rterm36.j2] at H
             by_cases c141 : x107_122 = true
             ·subst c141
              have H1 : (some (a0_2, a0_3, a0_4, wrap64 (a1 + 1), 0)) = some (r1, r2, r3, r4, r5) := by rw [if_pos rfl] at H; exact H
              clear H
              have H := H1
              clear H1
              simp only [Option.some.injEq, Prod.mk.injEq] at H
              obtain ⟨rfl, rfl, rfl, rfl, rfl⟩ := H
              have hnb142 := NB125_126.out
              have hnc142 := NB126_125.out
              have hnb143 := NB125_150.out
              have hnc143 := NB150_125.out
              have hcz144_0 : wc.cell? ⟨gb125, 0, none⟩ = some (.slice (some ad149) l0_0.length c0_0) := (blk_cell BK125.out 0).trans rfl
              have hcz144_1 : wc.cell? ⟨gb125, 1, none⟩ = some (.slice A0_1 l0_1.length c0_1) := (blk_cell BK125.out 1).trans rfl
              have hcz144_2 : wc.cell? ⟨gb125, 2, none⟩ = some (.int .i64 a0_2) := (blk_cell BK125.out 2).trans rfl
              have hcz144_3 : wc.cell? ⟨gb125, 3, none⟩ = some (.string a0_3) := (blk_cell BK125.out 3).trans rfl
              have hcz144_4 : wc.cell? ⟨gb125, 4, none⟩ = some (.int .i64 a0_4) := (blk_cell BK125.out 4).trans rfl
              have hfz144_0 := blk_frozen BK125.out 0
              have hfz144_1 := blk_frozen BK125.out 1
              have hfz144_2 := blk_frozen BK125.out 2
              have hfz144_3 := blk_frozen BK125.out 3
              have hfz144_4 := blk_frozen BK125.out 4
              have hnb145 := NB126_150.out
              have hnc145 := NB150_126.out
              have hcz146_0 : wc.cell? ⟨gb126, 0, none⟩ = some (.int .i64 x127000_17) := (blk_cell BK126.out 0).trans rfl
              have hcz146_1 : wc.cell? ⟨gb126, 1, none⟩ = some (.string x127001_17) := (blk_cell BK126.out 1).trans rfl
              have hcz146_2 : wc.cell? ⟨gb126, 2, none⟩ = some (.int .i64 x127002_17) := (blk_cell BK126.out 2).trans rfl
              have hfz146_0 := blk_frozen BK126.out 0
              have hfz146_1 := blk_frozen BK126.out 1
              have hfz146_2 := blk_frozen BK126.out 2
              go_wp2
              refine bodyPost_ret (results_ctt rfl _ _ gb126 24 #[.int .i64 a0_2, .string a0_3, .int .i64 a0_4] (0, 0) _ rfl (by (with_reducible repeat(first|apply bN|apply bD)); refine blk_put (cs := #[.int .i64 a0_2, .string a0_3, .int .i64 x127002_17]) ?_ 2 _ rfl; (with_reducible repeat(first|apply bN|apply bD)); refine blk_put (cs := #[.int .i64 a0_2, .string x127001_17, .int .i64 x127002_17]) ?_ 1 _ rfl; (with_reducible repeat(first|apply bN|apply bD)); refine blk_put (cs := #[.int .i64 x127000_17, .string x127001_17, .int .i64 x127002_17]) ?_ 0 _ rfl; (with_reducible repeat(first|apply bN|apply bD)); exact BK126.out) Try.underlying24 rfl (by kernel_rfl)) rfl ?_
              exact ⟨by first | rfl | (simp [errW_none, errW_some] <;> rfl) | (simp [*, errW_none, errW_some] <;> rfl), by repeat (first|(with_reducible first | exact HB.out | apply below_alloc | apply pw_below_drewN | apply below_drew1 | refine below_set ?_ GE125.out | refine below_set ?_ GE126.out | refine below_set ?_ GE150.out) | exact HB.out)⟩
             ·replace c141 := Bool.eq_false_iff.mpr c141
              subst c141
              have H1 : (if ((rd_T38 l0_0 a1).f0) = 1 then ((emulatorref25_Name.f kj122 ((rd_T38 l0_0 a1).f1)).bind fun t151 => (if t151 = true then ((emulatorref26_named.f kj122 ((rd_T38 l0_0 a1).f1) l0_1).bind fun bt152 => (some (bt152.1, bt152.2.1, bt152.2.2, wrap64 (a1 + 1), 0))) else (some (0, (⟨#[]⟩ : ByteArray), 0, 0, 3)))) else (some (0, (⟨#[]⟩ : ByteArray), 0, 0, 3))) = some (r1, r2, r3, r4, r5) := by rw [if_neg (show ¬ (false = true) by decide)] at H; exact H
              clear H
              have H := H1
              clear H1
              by_cases c147 : ((rd_T38 l0_0 a1).f0) = 1
              ·rw [if_pos c147] at H
               have c147b0 : (((rd_T38 l0_0 a1).f0) == 1) = true := beq_iff_eq.mpr c147
               have c147b1 : (((rd_T38 l0_0 a1).f0) != 1) = false := bne_eq_false_iff_eq.mpr c147
               clear c147
               replace H := Option.bind_eq_some_iff.mp H
               obtain ⟨t151, A1480, H⟩ := H
               replace H : (if t151 = true then ((emulatorref26_named.f kj122 ((rd_T38 l0_0 a1).f1) l0_1).bind fun bt152 => (some (bt152.1, bt152.2.1, bt152.2.2, wrap64 (a1 + 1), 0))) else (some (0, (⟨#[]⟩ : ByteArray), 0, 0, 3))) = some (r1, r2, r3, r4, r5) := H
               have A148 := Aside0.mk A1480
               clear A1480
               by_cases c149 : t151 = true
               ·subst c149
                have H1 : ((emulatorref26_named.f kj122 ((rd_T38 l0_0 a1).f1) l0_1).bind fun bt152 => (some (bt152.1, bt152.2.1, bt152.2.2, wrap64 (a1 + 1), 0))) = some (r1, r2, r3, r4, r5) := by rw [if_pos rfl] at H; exact H
                clear H
                have H := H1
                clear H1
                replace H := Option.bind_eq_some_iff.mp H
                obtain ⟨⟨t152, t153, t154⟩, A1500, H⟩ := H
                replace H : (some (t152, t153, t154, wrap64 (a1 + 1), 0)) = some (r1, r2, r3, r4, r5) := H
                have A150 := Aside0.mk A1500
                clear A1500
                simp only [Option.some.injEq, Prod.mk.injEq] at H
                obtain ⟨rfl, rfl, rfl, rfl, rfl⟩ := H
                have hnb151 := NB150_125.out
                have hnc151 := NB125_150.out
                have hnb152 := NB150_126.out
                have hnc152 := NB126_150.out
                have hcz153_0 : wc.cell? ⟨gb150, 0, none⟩ = some (.int .i64 ((rd_T38 l0_0 a1).f0)) := (blk_cell BK150.out 0).trans rfl
                have hcz153_1 : wc.cell? ⟨gb150, 1, none⟩ = some (.string ((rd_T38 l0_0 a1).f1)) := (blk_cell BK150.out 1).trans rfl
                have hcz153_2 : wc.cell? ⟨gb150, 2, none⟩ = some (.int .i64 ((rd_T38 l0_0 a1).f2)) := (blk_cell BK150.out 2).trans rfl
                have hcz153_3 : wc.cell? ⟨gb150, 3, none⟩ = some (.int .i64 ((rd_T38 l0_0 a1).f3)) := (blk_cell BK150.out 3).trans rfl
                have hfz153_0 := blk_frozen BK150.out 0
                have hfz153_1 := blk_frozen BK150.out 1
                have hfz153_2 := blk_frozen BK150.out 2
                have hfz153_3 := blk_frozen BK150.out 3
                go_wp2_with (first | (go_at_call 29; (with_reducible refine (emulatorref25_Name.calls kj122 ((rd_T38 l0_0 a1).f1) true _ A148.out).mono ?_); rintro e w' ⟨rfl, ⟨nd, rfl⟩⟩; (try (rw [drewN_self wc]; generalize hq_ : World.drewN wc _ = wc; have n0_ : Aside0 (wc.heap[gb125]? = some (.cells #[.slice (some ad149) l0_0.length c0_0, .slice A0_1 l0_1.length c0_1, .int .i64 a0_2, .string a0_3, .int .i64 a0_4] 58 (0, 0))) := ⟨by rw [← hq_]; exact (by (with_reducible repeat(first|apply bN|apply bD)); exact BK125.out)⟩; have n1_ : Aside0 (wc.heap[gb126]? = some (.cells #[.int .i64 x127000_17, .string x127001_17, .int .i64 x127002_17] 24 (0, 0))) := ⟨by rw [← hq_]; exact (by (with_reducible repeat(first|apply bN|apply bD)); exact BK126.out)⟩; have n2_ : Aside0 (wc.heap[gb150]? = some (.cells #[.int .i64 ((rd_T38 l0_0 a1).f0), .string ((rd_T38 l0_0 a1).f1), .int .i64 ((rd_T38 l0_0 a1).f2), .int .i64 ((rd_T38 l0_0 a1).f3)] 38 (0, 0))) := ⟨by rw [← hq_]; exact (by (with_reducible repeat(first|apply bN|apply bD)); exact BK150.out)⟩; have n3_ : Aside0 (Below w.heap.size w wc) := ⟨by rw [← hq_]; exact (by repeat (first|(with_reducible first | exact HB.out | apply below_alloc | apply pw_below_drewN | apply below_drew1 | refine below_set ?_ GE125.out | refine below_set ?_ GE126.out | refine below_set ?_ GE150.out) | exact HB.out))⟩; clear BK125 BK126 BK150 HB hq_; have BK125 := n0_; have BK126 := n1_; have BK150 := n2_; have HB := n3_; clear n0_ n1_ n2_ n3_)); have hczm_0 : wc.cell? ⟨gb150, 0, none⟩ = some (.int .i64 ((rd_T38 l0_0 a1).f0)) := (blk_cell BK150.out 0).trans rfl; have hczm_1 : wc.cell? ⟨gb150, 1, none⟩ = some (.string ((rd_T38 l0_0 a1).f1)) := (blk_cell BK150.out 1).trans rfl; have hnb154 := NB125_126.out; have hnc154 := NB126_125.out; have hcz155_0 : wc.cell? ⟨gb125, 0, none⟩ = some (.slice (some ad149) l0_0.length c0_0) := (blk_cell BK125.out 0).trans rfl; have hcz155_1 : wc.cell? ⟨gb125, 1, none⟩ = some (.slice A0_1 l0_1.length c0_1) := (blk_cell BK125.out 1).trans rfl; have hcz155_2 : wc.cell? ⟨gb125, 2, none⟩ = some (.int .i64 a0_2) := (blk_cell BK125.out 2).trans rfl; have hcz155_3 : wc.cell? ⟨gb125, 3, none⟩ = some (.string a0_3) := (blk_cell BK125.out 3).trans rfl; have hcz155_4 : wc.cell? ⟨gb125, 4, none⟩ = some (.int .i64 a0_4) := (blk_cell BK125.out 4).trans rfl; have hfz155_0 := blk_frozen BK125.out 0; have hfz155_1 := blk_frozen BK125.out 1; have hfz155_2 := blk_frozen BK125.out 2; have hfz155_3 := blk_frozen BK125.out 3; have hfz155_4 := blk_frozen BK125.out 4) | ((with_reducible refine gate_callee (f := 51) rfl ?_); refine goesL_ (some 124) rfl rfl Try.func51 (by kernel_rfl) rfl #[.string ((rd_T38 l0_0 a1).f1), .slice A0_1 l0_1.length c0_1] rfl (by (try simp only [List.map_toArray, List.map_cons, List.map_nil]); first | done | rfl | (simp only [List.length_drop, List.length_take]; rfl)) ?_; (with_reducible refine (emulatorref26_named.calls kj122 ((rd_T38 l0_0 a1).f1) _ _ l0_1 t152 t153 t154 _ ?side1 ?side2 A150.out).mono ?_); (case side1 => repeat (first | exact (Kd.C_below HR0_1.out HB.out)|(with_reducible refine Kd.C_alloc ?_ _)|(with_reducible refine Kd.C_drewN ?_ _)|(with_reducible refine Kd.C_drew ?_))); (case side2 => exact HC0_1.out); rintro e w156 ⟨rfl, hb⟩; refine ⟨_, rfl, ?_⟩; have n0_ := Aside0.mk (blk_below (g := gb125) (o := .cells #[.slice (some ad149) l0_0.length c0_0, .slice A0_1 l0_1.length c0_1, .int .i64 a0_2, .string a0_3, .int .i64 a0_4] 58 (0, 0)) (by (with_reducible repeat(first|apply bN|apply bD)); exact BK125.out) hb); have n1_ := Aside0.mk (blk_below (g := gb126) (o := .cells #[.int .i64 x127000_17, .string x127001_17, .int .i64 x127002_17] 24 (0, 0)) (by (with_reducible repeat(first|apply bN|apply bD)); exact BK126.out) hb); have n2_ := Aside0.mk (blk_below (g := gb150) (o := .cells #[.int .i64 ((rd_T38 l0_0 a1).f0), .string ((rd_T38 l0_0 a1).f1), .int .i64 ((rd_T38 l0_0 a1).f2), .int .i64 ((rd_T38 l0_0 a1).f3)] 38 (0, 0)) (by (with_reducible repeat(first|apply bN|apply bD)); exact BK150.out) hb); have n3_ := Aside0.mk (below_step (by repeat (first|(with_reducible first | exact HB.out | apply below_alloc | apply pw_below_drewN | apply below_drew1 | refine below_set ?_ GE125.out | refine below_set ?_ GE126.out | refine below_set ?_ GE150.out) | exact HB.out)) hb); clear BK125; clear BK126; clear BK150; clear HB; have BK125 := n0_; have BK126 := n1_; have BK150 := n2_; have HB := n3_; clear n0_ n1_ n2_ n3_; (try clear hb); (try clear hb2); (try clear hk); (try clear hi); have hcz157_0 : w156.cell? ⟨gb126, 0, none⟩ = some (.int .i64 x127000_17) := (blk_cell BK126.out 0).trans rfl; have hcz157_1 : w156.cell? ⟨gb126, 1, none⟩ = some (.string x127001_17) := (blk_cell BK126.out 1).trans rfl; have hcz157_2 : w156.cell? ⟨gb126, 2, none⟩ = some (.int .i64 x127002_17) := (blk_cell BK126.out 2).trans rfl; have hfz157_0 := blk_frozen BK126.out 0; have hfz157_1 := blk_frozen BK126.out 1; have hfz157_2 := blk_frozen BK126.out 2))
                refine bodyPost_ret (results_ctt rfl _ _ gb126 24 #[.int .i64 t152, .string t153, .int .i64 t154] (0, 0) _ rfl (by (with_reducible repeat(first|apply bN|apply bD)); refine blk_put (cs := #[.int .i64 t152, .string t153, .int .i64 x127002_17]) ?_ 2 _ rfl; (with_reducible repeat(first|apply bN|apply bD)); refine blk_put (cs := #[.int .i64 t152, .string x127001_17, .int .i64 x127002_17]) ?_ 1 _ rfl; (with_reducible repeat(first|apply bN|apply bD)); refine blk_put (cs := #[.int .i64 x127000_17, .string x127001_17, .int .i64 x127002_17]) ?_ 0 _ rfl; (with_reducible repeat(first|apply bN|apply bD)); exact BK126.out) Try.underlying24 rfl (by kernel_rfl)) rfl ?_
                exact ⟨by first | rfl | (simp [errW_none, errW_some] <;> rfl) | (simp [*, errW_none, errW_some] <;> rfl), by repeat (first|(with_reducible first | exact HB.out | apply below_alloc | apply pw_below_drewN | apply below_drew1 | refine below_set ?_ GE125.out | refine below_set ?_ GE126.out | refine below_set ?_ GE150.out) | exact HB.out)⟩
               ·replace c149 := Bool.eq_false_iff.mpr c149
                subst c149
                have H1 : (some (0, (⟨#[]⟩ : ByteArray), 0, 0, 3)) = some (r1, r2, r3, r4, r5) := by rw [if_neg (show ¬ (false = true) by decide)] at H; exact H
                clear H
                have H := H1
                clear H1
                simp only [Option.some.injEq, Prod.mk.injEq] at H
                obtain ⟨rfl, rfl, rfl, rfl, rfl⟩ := H
                have hnb158 := NB150_125.out
                have hnc158 := NB125_150.out
                have hnb159 := NB150_126.out
                have hnc159 := NB126_150.out
                have hcz160_0 : wc.cell? ⟨gb150, 0, none⟩ = some (.int .i64 ((rd_T38 l0_0 a1).f0)) := (blk_cell BK150.out 0).trans rfl
                have hcz160_1 : wc.cell? ⟨gb150, 1, none⟩ = some (.string ((rd_T38 l0_0 a1).f1)) := (blk_cell BK150.out 1).trans rfl
                have hcz160_2 : wc.cell? ⟨gb150, 2, none⟩ = some (.int .i64 ((rd_T38 l0_0 a1).f2)) := (blk_cell BK150.out 2).trans rfl
                have hcz160_3 : wc.cell? ⟨gb150, 3, none⟩ = some (.int .i64 ((rd_T38 l0_0 a1).f3)) := (blk_cell BK150.out 3).trans rfl
                have hfz160_0 := blk_frozen BK150.out 0
                have hfz160_1 := blk_frozen BK150.out 1
                have hfz160_2 := blk_frozen BK150.out 2
                have hfz160_3 := blk_frozen BK150.out 3
                go_wp2_with (first | (go_at_call 29; (with_reducible refine (emulatorref25_Name.calls kj122 ((rd_T38 l0_0 a1).f1) false _ A148.out).mono ?_); rintro e w' ⟨rfl, ⟨nd, rfl⟩⟩; (try (rw [drewN_self wc]; generalize hq_ : World.drewN wc _ = wc; have n0_ : Aside0 (wc.heap[gb125]? = some (.cells #[.slice (some ad149) l0_0.length c0_0, .slice A0_1 l0_1.length c0_1, .int .i64 a0_2, .string a0_3, .int .i64 a0_4] 58 (0, 0))) := ⟨by rw [← hq_]; exact (by (with_reducible repeat(first|apply bN|apply bD)); exact BK125.out)⟩; have n1_ : Aside0 (wc.heap[gb126]? = some (.cells #[.int .i64 x127000_17, .string x127001_17, .int .i64 x127002_17] 24 (0, 0))) := ⟨by rw [← hq_]; exact (by (with_reducible repeat(first|apply bN|apply bD)); exact BK126.out)⟩; have n2_ : Aside0 (wc.heap[gb150]? = some (.cells #[.int .i64 ((rd_T38 l0_0 a1).f0), .string ((rd_T38 l0_0 a1).f1), .int .i64 ((rd_T38 l0_0 a1).f2), .int .i64 ((rd_T38 l0_0 a1).f3)] 38 (0, 0))) := ⟨by rw [← hq_]; exact (by (with_reducible repeat(first|apply bN|apply bD)); exact BK150.out)⟩; have n3_ : Aside0 (Below w.heap.size w wc) := ⟨by rw [← hq_]; exact (by repeat (first|(with_reducible first | exact HB.out | apply below_alloc | apply pw_below_drewN | apply below_drew1 | refine below_set ?_ GE125.out | refine below_set ?_ GE126.out | refine below_set ?_ GE150.out) | exact HB.out))⟩; clear BK125 BK126 BK150 HB hq_; have BK125 := n0_; have BK126 := n1_; have BK150 := n2_; have HB := n3_; clear n0_ n1_ n2_ n3_)); have hczm_0 : wc.cell? ⟨gb150, 0, none⟩ = some (.int .i64 ((rd_T38 l0_0 a1).f0)) := (blk_cell BK150.out 0).trans rfl; have hczm_1 : wc.cell? ⟨gb150, 1, none⟩ = some (.string ((rd_T38 l0_0 a1).f1)) := (blk_cell BK150.out 1).trans rfl; have hnb161 := NB126_125.out; have hnc161 := NB125_126.out; have hcz162_0 : wc.cell? ⟨gb126, 0, none⟩ = some (.int .i64 x127000_17) := (blk_cell BK126.out 0).trans rfl; have hcz162_1 : wc.cell? ⟨gb126, 1, none⟩ = some (.string x127001_17) := (blk_cell BK126.out 1).trans rfl; have hcz162_2 : wc.cell? ⟨gb126, 2, none⟩ = some (.int .i64 x127002_17) := (blk_cell BK126.out 2).trans rfl; have hfz162_0 := blk_frozen BK126.out 0; have hfz162_1 := blk_frozen BK126.out 1; have hfz162_2 := blk_frozen BK126.out 2))
                refine bodyPost_ret (results_ctt rfl _ _ gb126 24 #[.int .i64 0, .string (⟨#[]⟩ : ByteArray), .int .i64 0] (0, 0) _ rfl (by (with_reducible repeat(first|apply bN|apply bD)); refine blk_put (cs := #[.int .i64 0, .string (⟨#[]⟩ : ByteArray), .int .i64 x127002_17]) ?_ 2 _ rfl; (with_reducible repeat(first|apply bN|apply bD)); refine blk_put (cs := #[.int .i64 0, .string x127001_17, .int .i64 x127002_17]) ?_ 1 _ rfl; (with_reducible repeat(first|apply bN|apply bD)); refine blk_put (cs := #[.int .i64 x127000_17, .string x127001_17, .int .i64 x127002_17]) ?_ 0 _ rfl; (with_reducible repeat(first|apply bN|apply bD)); exact BK126.out) Try.underlying24 rfl (by kernel_rfl)) rfl ?_
                exact ⟨by first | rfl | (simp [errW_none, errW_some] <;> rfl) | (simp [*, errW_none, errW_some] <;> rfl), by repeat (first|(with_reducible first | exact HB.out | apply below_alloc | apply pw_below_drewN | apply below_drew1 | refine below_set ?_ GE125.out | refine below_set ?_ GE126.out | refine below_set ?_ GE150.out) | exact HB.out)⟩
              ·rw [if_neg c147] at H
               have c147b0 : (((rd_T38 l0_0 a1).f0) == 1) = false := beq_eq_false_iff_ne.mpr c147
               have c147b1 : (((rd_T38 l0_0 a1).f0) != 1) = true := bne_iff_ne.mpr c147
               simp only [Option.some.injEq, Prod.mk.injEq] at H
               obtain ⟨rfl, rfl, rfl, rfl, rfl⟩ := H
               have hnb163 := NB150_125.out
               have hnc163 := NB125_150.out
               have hnb164 := NB150_126.out
               have hnc164 := NB126_150.out
               have hcz165_0 : wc.cell? ⟨gb150, 0, none⟩ = some (.int .i64 ((rd_T38 l0_0 a1).f0)) := (blk_cell BK150.out 0).trans rfl
               have hcz165_1 : wc.cell? ⟨gb150, 1, none⟩ = some (.string ((rd_T38 l0_0 a1).f1)) := (blk_cell BK150.out 1).trans rfl
               have hcz165_2 : wc.cell? ⟨gb150, 2, none⟩ = some (.int .i64 ((rd_T38 l0_0 a1).f2)) := (blk_cell BK150.out 2).trans rfl
               have hcz165_3 : wc.cell? ⟨gb150, 3, none⟩ = some (.int .i64 ((rd_T38 l0_0 a1).f3)) := (blk_cell BK150.out 3).trans rfl
               have hfz165_0 := blk_frozen BK150.out 0
               have hfz165_1 := blk_frozen BK150.out 1
               have hfz165_2 := blk_frozen BK150.out 2
               have hfz165_3 := blk_frozen BK150.out 3
               have hnb166 := NB126_125.out
               have hnc166 := NB125_126.out
               have hcz167_0 : wc.cell? ⟨gb126, 0, none⟩ = some (.int .i64 x127000_17) := (blk_cell BK126.out 0).trans rfl
               have hcz167_1 : wc.cell? ⟨gb126, 1, none⟩ = some (.string x127001_17) := (blk_cell BK126.out 1).trans rfl
               have hcz167_2 : wc.cell? ⟨gb126, 2, none⟩ = some (.int .i64 x127002_17) := (blk_cell BK126.out 2).trans rfl
               have hfz167_0 := blk_frozen BK126.out 0
               have hfz167_1 := blk_frozen BK126.out 1
               have hfz167_2 := blk_frozen BK126.out 2
               go_wp2
               refine bodyPost_ret (results_ctt rfl _ _ gb126 24 #[.int .i64 0, .string (⟨#[]⟩ : ByteArray), .int .i64 0] (0, 0) _ rfl (by (with_reducible repeat(first|apply bN|apply bD)); refine blk_put (cs := #[.int .i64 0, .string (⟨#[]⟩ : ByteArray), .int .i64 x127002_17]) ?_ 2 _ rfl; (with_reducible repeat(first|apply bN|apply bD)); refine blk_put (cs := #[.int .i64 0, .string x127001_17, .int .i64 x127002_17]) ?_ 1 _ rfl; (with_reducible repeat(first|apply bN|apply bD)); refine blk_put (cs := #[.int .i64 x127000_17, .string x127001_17, .int .i64 x127002_17]) ?_ 0 _ rfl; (with_reducible repeat(first|apply bN|apply bD)); exact BK126.out) Try.underlying24 rfl (by kernel_rfl)) rfl ?_
               exact ⟨by first | rfl | (simp [errW_none, errW_some] <;> rfl) | (simp [*, errW_none, errW_some] <;> rfl), by repeat (first|(with_reducible first | exact HB.out | apply below_alloc | apply pw_below_drewN | apply below_drew1 | refine below_set ?_ GE125.out | refine below_set ?_ GE126.out | refine below_set ?_ GE150.out) | exact HB.out)⟩
         ·rw [if_neg c110] at H
          exact absurd H (by simp)
        ·rw [if_neg c109] at H
         exact absurd H (by simp)
end Go.Proofs.Ytpinoobgnnlccaa.A
