-- Written by a program of this session (mp.py) over the kit's print.py, with proofs by hand for what the print does not take.
import Derived.Test.YtmlhdepemeodkaaAx0
import Derived.Test.YtmlhdepemeodkaaTrans
import Derived.Test.YtmlhdepemeodkaaAx1
import Derived.Test.YtmlhdepemeodkaaAx2
import Derived.Test.YtmlhdepemeodkaaAx3
namespace Go.Proofs.Ytmlhdepemeodkaa.A
open Go.RowKit Go.Proofs.YtmlhdepemeodkaaW.PrintWords Go.Proofs.YtmlhdepemeodkaaW.PrintLast Go.Proofs.YtmlhdepemeodkaaW.PrintMore
attribute [local go_sem] max2_int min2_int max_two min_two max_three min_three max_four min_four   -- for this text's walks alone
set_option linter.unusedVariables false
set_option linter.unusedSimpArgs false

/-! ### radix_Format: function 20 -/
def radix_Format.f (_k : Nat) (a0 : Int) (a1 : Int) : Option (ByteArray) := if a0 = 64 ∧ a1 = 8 then some (⟨#[49, 48, 48]⟩ : ByteArray) else none
theorem radix_Format.mono : ∀ a0 a1 k, LeO (radix_Format.f k a0 a1) (radix_Format.f (k + 1) a0 a1) := fun _ _ _ => LeO.refl _
theorem radix_Format.calls (k : Nat) (a0 : Int) (a1 : Int) (r : ByteArray) (w : World) (h : radix_Format.f k a0 a1 = some r) :
    Calls Try.prog 20 #[.int .i64 a0, .int .i64 a1] w fun e w' => e = .returned (.string r) ∧ Drawn0 w w' := by
  unfold radix_Format.f at h
  by_cases c : a0 = 64 ∧ a1 = 8
  · rw [if_pos c] at h
    obtain rfl := Option.some.inj h
    obtain ⟨rfl, rfl⟩ := c
    exact format_v w
  · rw [if_neg c] at h; cases h

/-! ### emulatortop_awake: function 11 -/
def emulatortop_awake.f (k : Nat)  : Option (Bool) := (pipe_New.f).bind fun bt109 => ((pipe_Write.f bt109.1 bt109.2.1 bt109.2.2 (⟨#[97, 98, 99]⟩ : ByteArray)).bind fun bt112 => ((pipe_Read.f bt112.1 bt112.2.1 bt112.2.2.1 2).bind fun bt118 => (if bt112.2.2.2.2 = 0 then (if bt112.2.2.2.1 = 3 then (if bt118.2.2.2.2 = 0 then (if bt118.2.2.2.1.toList = ([97, 98] : List UInt8) then (if bt118.1.toList = ([99] : List UInt8) then (if 253952 = 253952 then (if 0 = 0 then ((radix_Format.f k 64 8).bind fun t124 => (some (t124.toList == ([49, 48, 48] : List UInt8)))) else (some false)) else (some false)) else (some false)) else (some false)) else (some false)) else (some false)) else (some false))))
theorem emulatortop_awake.mono : ∀ k, LeO (emulatortop_awake.f k ) (emulatortop_awake.f (k + 1) ) := by
  intro  k
  unfold emulatortop_awake.f
  repeat' first
      | (with_reducible exact radix_Format.mono _ _ _)
      | (with_reducible exact LeO.refl _)
      | (with_reducible exact LeO.none _)
      | (with_reducible refine LeO.ite ?_ ?_)
      | (with_reducible refine LeO.bind ?_ (fun _ => ?_))
      | exact radix_Format.mono _ _ _
      | exact LeO.none _
      | refine LeO.ite ?_ ?_
      | refine LeO.bind ?_ (fun _ => ?_)
theorem alive_K : emulatortop_awake.f 3 = some true := by decide +kernel
theorem alive_val (k : Nat) (r : Bool) (h : emulatortop_awake.f k = some r) : r = true := by
  have h1 : ∀ n, LeO (emulatortop_awake.f k) (emulatortop_awake.f (k + n)) := by
    intro n
    induction n with
    | zero => exact LeO.refl _
    | succ n ih => exact fun r h => emulatortop_awake.mono (k + n) r (ih r h)
  have h2 : ∀ n, LeO (emulatortop_awake.f 3) (emulatortop_awake.f (3 + n)) := by
    intro n
    induction n with
    | zero => exact LeO.refl _
    | succ n ih => exact fun r h => emulatortop_awake.mono (3 + n) r (ih r h)
  have e1 := h1 3 r h
  have e2 := h2 k true alive_K
  rw [Nat.add_comm] at e2
  exact Option.some.inj (e1.symm.trans e2)
set_option maxHeartbeats 8000000 in
set_option maxRecDepth 100000 in
theorem emulatortop_awake.calls (k : Nat)  (r : Bool) (w : World) (h : emulatortop_awake.f k  = some r) :
    Calls Try.prog 11 #[] w fun e w' => e = .returned (.bool r) ∧ Below w.heap.size w w' := by
  have hu43 := Try.underlying43
  have hz27 := build27
  have hr_ := Aside0.mk (alive_val k r h)
  have HB := Aside0.mk (Below.refl w.heap.size w)
  have H : ((pipe_New.f).bind fun bt109 => ((pipe_Write.f bt109.1 bt109.2.1 bt109.2.2 (⟨#[97, 98, 99]⟩ : ByteArray)).bind fun bt112 => ((pipe_Read.f bt112.1 bt112.2.1 bt112.2.2.1 2).bind fun bt118 => (if bt112.2.2.2.2 = 0 then (if bt112.2.2.2.1 = 3 then (if bt118.2.2.2.2 = 0 then (if bt118.2.2.2.1.toList = ([97, 98] : List UInt8) then (if bt118.1.toList = ([99] : List UInt8) then (if 253952 = 253952 then (if 0 = 0 then ((radix_Format.f k 64 8).bind fun t124 => (some (t124.toList == ([49, 48, 48] : List UInt8)))) else (some false)) else (some false)) else (some false)) else (some false)) else (some false)) else (some false)) else (some false))))) = some r := h
  clear h
  replace H := Option.bind_eq_some_iff.mp H
  obtain ⟨⟨t109, t110, t111⟩, A10, H⟩ := H
  replace H : ((pipe_Write.f t109 t110 t111 (⟨#[97, 98, 99]⟩ : ByteArray)).bind fun bt112 => ((pipe_Read.f bt112.1 bt112.2.1 bt112.2.2.1 2).bind fun bt118 => (if bt112.2.2.2.2 = 0 then (if bt112.2.2.2.1 = 3 then (if bt118.2.2.2.2 = 0 then (if bt118.2.2.2.1.toList = ([97, 98] : List UInt8) then (if bt118.1.toList = ([99] : List UInt8) then (if 253952 = 253952 then (if 0 = 0 then ((radix_Format.f k 64 8).bind fun t124 => (some (t124.toList == ([49, 48, 48] : List UInt8)))) else (some false)) else (some false)) else (some false)) else (some false)) else (some false)) else (some false)) else (some false)))) = some r := H
  have A1 := Aside0.mk A10
  clear A10
  replace H := Option.bind_eq_some_iff.mp H
  obtain ⟨⟨t112, t113, t114, t115, t116⟩, A20, H⟩ := H
  replace H : ((pipe_Read.f t112 t113 t114 2).bind fun bt118 => (if t116 = 0 then (if t115 = 3 then (if bt118.2.2.2.2 = 0 then (if bt118.2.2.2.1.toList = ([97, 98] : List UInt8) then (if bt118.1.toList = ([99] : List UInt8) then (if 253952 = 253952 then (if 0 = 0 then ((radix_Format.f k 64 8).bind fun t124 => (some (t124.toList == ([49, 48, 48] : List UInt8)))) else (some false)) else (some false)) else (some false)) else (some false)) else (some false)) else (some false)) else (some false))) = some r := H
  have A2 := Aside0.mk A20
  clear A20
  replace H := Option.bind_eq_some_iff.mp H
  obtain ⟨⟨t118, t119, t120, t121, t122⟩, A30, H⟩ := H
  replace H : (if t116 = 0 then (if t115 = 3 then (if t122 = 0 then (if t121.toList = ([97, 98] : List UInt8) then (if t118.toList = ([99] : List UInt8) then (if 253952 = 253952 then (if 0 = 0 then ((radix_Format.f k 64 8).bind fun t124 => (some (t124.toList == ([49, 48, 48] : List UInt8)))) else (some false)) else (some false)) else (some false)) else (some false)) else (some false)) else (some false)) else (some false)) = some r := H
  have A3 := Aside0.mk A30
  clear A30
  by_cases c4 : t116 = 0
  · rw [if_pos c4] at H
    have c4b0 : (t116 == 0) = true := beq_iff_eq.mpr c4
    have c4b1 : (t116 != 0) = false := bne_eq_false_iff_eq.mpr c4
    clear c4
    by_cases c5 : t115 = 3
    · rw [if_pos c5] at H
      have c5b0 : (t115 == 3) = true := beq_iff_eq.mpr c5
      have c5b1 : (t115 != 3) = false := bne_eq_false_iff_eq.mpr c5
      clear c5
      by_cases c6 : t122 = 0
      · rw [if_pos c6] at H
        have c6b0 : (t122 == 0) = true := beq_iff_eq.mpr c6
        have c6b1 : (t122 != 0) = false := bne_eq_false_iff_eq.mpr c6
        clear c6
        by_cases c7 : t121.toList = ([97, 98] : List UInt8)
        · rw [if_pos c7] at H
          have c7b0 : (t121.toList == ([97, 98] : List UInt8)) = true := beq_iff_eq.mpr c7
          have c7b1 : (t121.toList != ([97, 98] : List UInt8)) = false := bne_eq_false_iff_eq.mpr c7
          clear c7
          by_cases c8 : t118.toList = ([99] : List UInt8)
          · rw [if_pos c8] at H
            have c8b0 : (t118.toList == ([99] : List UInt8)) = true := beq_iff_eq.mpr c8
            have c8b1 : (t118.toList != ([99] : List UInt8)) = false := bne_eq_false_iff_eq.mpr c8
            clear c8
            by_cases c9 : 253952 = 253952
            · rw [if_pos c9] at H
              have c9b0 : (253952 == 253952) = true := beq_iff_eq.mpr c9
              have c9b1 : (253952 != 253952) = false := bne_eq_false_iff_eq.mpr c9
              clear c9
              by_cases c10 : 0 = 0
              · rw [if_pos c10] at H
                have c10b0 : (0 == 0) = true := beq_iff_eq.mpr c10
                have c10b1 : (0 != 0) = false := bne_eq_false_iff_eq.mpr c10
                clear c10
                replace H := Option.bind_eq_some_iff.mp H
                obtain ⟨t124, A110, H⟩ := H
                replace H : (some (t124.toList == ([49, 48, 48] : List UInt8))) = some r := H
                have A11 := Aside0.mk A110
                clear A110
                obtain rfl := Option.some.inj H
                go_enter Try.func11, Try.ntmps11
                go_wp2_with (first | ((with_reducible refine gate_callee (f := 12) rfl ?_); refine goesL_ (some 11) rfl rfl Try.func12 (by kernel_rfl) rfl #[] rfl (by (try simp only [List.map_toArray, List.map_cons, List.map_nil]); first | done | rfl | (simp only [List.length_drop, List.length_take]; rfl)) ?_; (with_reducible refine (pipe_New.calls  t109 t110 t111 _ A1.out).mono ?_); rintro e w12 ⟨rfl, hb⟩; refine ⟨_, rfl, ?_⟩; have n0_ := Aside0.mk (below_step (by repeat (first | (with_reducible first | exact HB.out | apply below_alloc | apply pw_below_drewN | apply below_drew1) | exact HB.out)) hb); clear HB; have HB := n0_; clear n0_; (try clear hb); (try clear hb2); (try clear hk); (try clear hi)) | ((with_reducible refine gate_callee (f := 13) rfl ?_); refine goesL_ (some 12) rfl rfl Try.func13 (by kernel_rfl) rfl #[.agg #[.string t109, .int .i64 t110, .int .i64 t111], .string (⟨#[97, 98, 99]⟩ : ByteArray)] rfl (by (try simp only [List.map_toArray, List.map_cons, List.map_nil]); first | done | rfl | (simp only [List.length_drop, List.length_take]; rfl)) ?_; (with_reducible refine (pipe_Write.calls t109 t110 t111 (⟨#[97, 98, 99]⟩ : ByteArray) t112 t113 t114 t115 t116 _ A2.out).mono ?_); rintro e w13 ⟨rfl, hb⟩; refine ⟨_, rfl, ?_⟩; have n0_ := Aside0.mk (below_step (by repeat (first | (with_reducible first | exact HB.out | apply below_alloc | apply pw_below_drewN | apply below_drew1) | exact HB.out)) hb); clear HB; have HB := n0_; clear n0_; (try clear hb); (try clear hb2); (try clear hk); (try clear hi)) | ((with_reducible refine gate_dst (N := 1) rfl ?_); refine box_event ?hg (N := 1) ?hd (cs := #[.string (⟨#[]⟩ : ByteArray), .int .i64 0, .int .i64 0]) (t := 43) ?hr ?_; (case hd => rfl); (case hg => rfl); (case hr => first | (go_simp; done) | (go_simp; rfl)); intro gb117 hg w14 hbox hb; have n0_ := Aside0.mk (below_step (by repeat (first | (with_reducible first | exact HB.out | apply below_alloc | apply pw_below_drewN | apply below_drew1) | exact HB.out)) hb); have n1_ := Aside0.mk (hbox); have n2_ := Aside0.mk ((by rw [hg]; exact (below_size (by repeat (first | (with_reducible first | exact HB.out | apply below_alloc | apply pw_below_drewN | apply below_drew1) | exact HB.out))) : w.heap.size ≤ gb117)); have n3_ := Aside0.mk ((by rw [hg]; exact (below_size (by repeat (first | (with_reducible first | exact HB.out | apply below_alloc | apply pw_below_drewN | apply below_drew1) | exact HB.out))) : w.heap.size ≤ gb117)); clear HB; have HB := n0_; have BK117 := n1_; have GW117 := n2_; have GE117 := n3_; clear n0_ n1_ n2_ n3_; clear hb hbox hg; have hcz15_0 : w14.cell? ⟨gb117, 0, none⟩ = some (.string (⟨#[]⟩ : ByteArray)) := (blk_cell BK117.out 0).trans rfl; have hcz15_1 : w14.cell? ⟨gb117, 1, none⟩ = some (.int .i64 0) := (blk_cell BK117.out 1).trans rfl; have hcz15_2 : w14.cell? ⟨gb117, 2, none⟩ = some (.int .i64 0) := (blk_cell BK117.out 2).trans rfl; have hfz15_0 := blk_frozen BK117.out 0; have hfz15_1 := blk_frozen BK117.out 1; have hfz15_2 := blk_frozen BK117.out 2) | ((with_reducible refine gate_callee (f := 14) rfl ?_); refine goesL_ (some 18) rfl rfl Try.func14 (by kernel_rfl) rfl #[.agg #[.string t112, .int .i64 t113, .int .i64 t114], .int .i64 2] rfl (by (try simp only [List.map_toArray, List.map_cons, List.map_nil]); first | done | rfl | (simp only [List.length_drop, List.length_take]; rfl)) ?_; (with_reducible refine (pipe_Read.calls t112 t113 t114 2 t118 t119 t120 t121 t122 _ A3.out).mono ?_); rintro e w16 ⟨rfl, hb⟩; refine ⟨_, rfl, ?_⟩; have n0_ := Aside0.mk (blk_below (g := gb117) (o := .cells #[.string t112, .int .i64 t113, .int .i64 t114] 43 (0, 0)) (by (with_reducible repeat (first | refine blk_drewN ?_ _ | refine blk_drew ?_ | refine blk_alloc ?_ _)); refine blk_put (cs := #[.string t112, .int .i64 t113, .int .i64 0]) ?_ 2 _ rfl; (with_reducible repeat (first | refine blk_drewN ?_ _ | refine blk_drew ?_ | refine blk_alloc ?_ _)); refine blk_put (cs := #[.string t112, .int .i64 0, .int .i64 0]) ?_ 1 _ rfl; (with_reducible repeat (first | refine blk_drewN ?_ _ | refine blk_drew ?_ | refine blk_alloc ?_ _)); refine blk_put (cs := #[.string (⟨#[]⟩ : ByteArray), .int .i64 0, .int .i64 0]) ?_ 0 _ rfl; (with_reducible repeat (first | refine blk_drewN ?_ _ | refine blk_drew ?_ | refine blk_alloc ?_ _)); exact BK117.out) hb); have n1_ := Aside0.mk (below_step (by repeat (first | (with_reducible first | exact HB.out | apply below_alloc | apply pw_below_drewN | apply below_drew1 | refine below_set ?_ GE117.out) | exact HB.out)) hb); clear BK117; clear HB; have BK117 := n0_; have HB := n1_; clear n0_ n1_; (try clear hb); (try clear hb2); (try clear hk); (try clear hi)) | ((with_reducible refine gate_dst (N := 4) rfl ?_); refine box_event ?hg (N := 4) ?hd (cs := #[.string (⟨#[]⟩ : ByteArray), .int .i64 0, .int .i64 0]) (t := 43) ?hr ?_; (case hd => rfl); (case hg => rfl); (case hr => first | (go_simp; done) | (go_simp; rfl)); intro gb123 hg w17 hbox hb; have n0_ := Aside0.mk (blk_below (g := gb117) (o := .cells #[.string t112, .int .i64 t113, .int .i64 t114] 43 (0, 0)) (by (with_reducible repeat (first | refine blk_drewN ?_ _ | refine blk_drew ?_ | refine blk_alloc ?_ _)); exact BK117.out) hb); have n1_ := Aside0.mk (below_step (by repeat (first | (with_reducible first | exact HB.out | apply below_alloc | apply pw_below_drewN | apply below_drew1 | refine below_set ?_ GE117.out) | exact HB.out)) hb); have n2_ := Aside0.mk (hbox); have n3_ := Aside0.mk ((by rw [hg]; exact (below_size (by repeat (first | (with_reducible first | exact HB.out | apply below_alloc | apply pw_below_drewN | apply below_drew1 | refine below_set ?_ GE117.out) | exact HB.out))) : w.heap.size ≤ gb123)); have n4_ := Aside0.mk ((by rw [hg]; exact (below_size (by repeat (first | (with_reducible first | exact HB.out | apply below_alloc | apply pw_below_drewN | apply below_drew1 | refine below_set ?_ GE117.out) | exact HB.out))) : w.heap.size ≤ gb123)); have n5_ := Aside0.mk ((by rw [hg]; exact Nat.ne_of_lt (blk_lt (g := gb117) (o := .cells #[.string t112, .int .i64 t113, .int .i64 t114] 43 (0, 0)) (by (with_reducible repeat (first | refine blk_drewN ?_ _ | refine blk_drew ?_ | refine blk_alloc ?_ _)); exact BK117.out)) : gb117 ≠ gb123)); have n6_ := Aside0.mk ((by rw [hg]; exact Nat.ne_of_gt (blk_lt (g := gb117) (o := .cells #[.string t112, .int .i64 t113, .int .i64 t114] 43 (0, 0)) (by (with_reducible repeat (first | refine blk_drewN ?_ _ | refine blk_drew ?_ | refine blk_alloc ?_ _)); exact BK117.out)) : gb123 ≠ gb117)); clear BK117; clear HB; have BK117 := n0_; have HB := n1_; have BK123 := n2_; have GW123 := n3_; have GE123 := n4_; have NB117_123 := n5_; have NB123_117 := n6_; clear n0_ n1_ n2_ n3_ n4_ n5_ n6_; clear hb hbox hg; have hnb18 := NB123_117.out; have hnc18 := NB117_123.out; have hcz19_0 : w17.cell? ⟨gb123, 0, none⟩ = some (.string (⟨#[]⟩ : ByteArray)) := (blk_cell BK123.out 0).trans rfl; have hcz19_1 : w17.cell? ⟨gb123, 1, none⟩ = some (.int .i64 0) := (blk_cell BK123.out 1).trans rfl; have hcz19_2 : w17.cell? ⟨gb123, 2, none⟩ = some (.int .i64 0) := (blk_cell BK123.out 2).trans rfl; have hfz19_0 := blk_frozen BK123.out 0; have hfz19_1 := blk_frozen BK123.out 1; have hfz19_2 := blk_frozen BK123.out 2) | ((with_reducible refine gate_callee (f := 19) rfl ?_); refine goesL_ (some 24) rfl rfl Try.func19 (by kernel_rfl) rfl #[.agg (Value.bool false :: zt).toArray, .int .i64 1, .int .i64 57344, .bool false] rfl (by (try simp only [List.map_toArray, List.map_cons, List.map_nil]); first | done | rfl) ?_; refine (trans_v zt zt_len zt_one _).mono ?_; rintro e wq ⟨rfl, hb⟩; refine ⟨_, rfl, ?_⟩; have n0_ := Aside0.mk (blk_below (g := gb123) (o := .cells #[.string t118, .int .i64 t119, .int .i64 t120] 43 (0, 0)) (by (with_reducible repeat (first | refine blk_drewN ?_ _ | refine blk_drew ?_ | refine blk_alloc ?_ _)); refine blk_put (cs := #[.string t118, .int .i64 t119, .int .i64 0]) ?_ 2 _ rfl; (with_reducible repeat (first | refine blk_drewN ?_ _ | refine blk_drew ?_ | refine blk_alloc ?_ _)); refine blk_put (cs := #[.string t118, .int .i64 0, .int .i64 0]) ?_ 1 _ rfl; (with_reducible repeat (first | refine blk_drewN ?_ _ | refine blk_drew ?_ | refine blk_alloc ?_ _)); refine blk_put (cs := #[.string (⟨#[]⟩ : ByteArray), .int .i64 0, .int .i64 0]) ?_ 0 _ rfl; (with_reducible repeat (first | refine blk_drewN ?_ _ | refine blk_drew ?_ | refine blk_alloc ?_ _)); exact BK123.out) hb); have n1_ := Aside0.mk (below_step (by repeat (first | (with_reducible first | exact HB.out | apply below_alloc | apply pw_below_drewN | apply below_drew1 | refine below_set ?_ GE117.out | refine below_set ?_ GE123.out) | exact HB.out)) hb); clear BK117 BK123; clear HB; have BK123 := n0_; have HB := n1_; clear n0_ n1_; clear hb; have hcq_0 : wq.cell? ⟨gb123, 0, none⟩ = some (.string t118) := (blk_cell BK123.out 0).trans rfl; have hcq_1 : wq.cell? ⟨gb123, 1, none⟩ = some (.int .i64 t119) := (blk_cell BK123.out 1).trans rfl; have hcq_2 : wq.cell? ⟨gb123, 2, none⟩ = some (.int .i64 t120) := (blk_cell BK123.out 2).trans rfl) | ((with_reducible refine gate_dst (N := 8) rfl ?_); refine box_event ?hg (N := 8) ?hd (cs := (Value.bool false :: zt).toArray) (t := 27) ?hr ?_; (case hd => rfl); (case hg => rfl); (case hr => first | (go_simp; done) | (go_simp; rfl)); intro gbz hg wz hbox hb; have n0_ := Aside0.mk (blk_below (g := gb123) (o := .cells #[.string t118, .int .i64 t119, .int .i64 t120] 43 (0, 0)) (by (with_reducible repeat (first | refine blk_drewN ?_ _ | refine blk_drew ?_ | refine blk_alloc ?_ _)); exact BK123.out) hb); have n1_ := Aside0.mk (below_step (by repeat (first | (with_reducible first | exact HB.out | apply below_alloc | apply pw_below_drewN | apply below_drew1 | refine below_set ?_ GE117.out | refine below_set ?_ GE123.out) | exact HB.out)) hb); have n2_ := Aside0.mk hbox; have n3_ := Aside0.mk ((by rw [hg]; exact (below_size (by repeat (first | (with_reducible first | exact HB.out | apply below_alloc | apply pw_below_drewN | apply below_drew1 | refine below_set ?_ GE117.out | refine below_set ?_ GE123.out) | exact HB.out)))) : w.heap.size ≤ gbz); have n4_ := Aside0.mk ((by rw [hg]; exact Nat.ne_of_lt (blk_lt (g := gb123) (o := .cells #[.string t118, .int .i64 t119, .int .i64 t120] 43 (0, 0)) (by (with_reducible repeat (first | refine blk_drewN ?_ _ | refine blk_drew ?_ | refine blk_alloc ?_ _)); exact BK123.out))) : gb123 ≠ gbz); clear BK123; clear HB; have BK123 := n0_; have HB := n1_; have BKZ := n2_; have GEZ := n3_; have NEZ := n4_; clear n0_ n1_ n2_ n3_ n4_; clear hb hbox hg; have hcy_0 : wz.cell? ⟨gb123, 0, none⟩ = some (.string t118) := (blk_cell BK123.out 0).trans rfl; have hcy_1 : wz.cell? ⟨gb123, 1, none⟩ = some (.int .i64 t119) := (blk_cell BK123.out 1).trans rfl; have hcy_2 : wz.cell? ⟨gb123, 2, none⟩ = some (.int .i64 t120) := (blk_cell BK123.out 2).trans rfl) | ((with_reducible refine gate_store (t := 27) (p := 8) rfl ?_); refine store27 (w0 := w) BKZ.out GEZ.out HB.out rfl rfl rfl rfl (fun ws hB' hk => ?_); have n0_ := Aside0.mk ((hk gb123 NEZ.out).trans BK123.out); have n1_ := Aside0.mk hB'; clear BK123 BKZ; clear HB; have BK123 := n0_; have HB := n1_; clear n0_ n1_; clear hB' hk; have hcx_0 : ws.cell? ⟨gb123, 0, none⟩ = some (.string t118) := (blk_cell BK123.out 0).trans rfl; have hcx_1 : ws.cell? ⟨gb123, 1, none⟩ = some (.int .i64 t119) := (blk_cell BK123.out 1).trans rfl; have hcx_2 : ws.cell? ⟨gb123, 2, none⟩ = some (.int .i64 t120) := (blk_cell BK123.out 2).trans rfl) | (go_at_call 20; (with_reducible refine (radix_Format.calls k 64 8 t124 _ A11.out).mono ?_); rintro e w' ⟨rfl, ⟨nd, rfl⟩⟩))
                go_ret
                exact ⟨by first | rfl | (simp [errW_none, errW_some] <;> rfl) | (simp [*, errW_none, errW_some] <;> rfl), by repeat (first | (with_reducible first | exact HB.out | apply below_alloc | apply pw_below_drewN | apply below_drew1 | refine below_set ?_ GE117.out | refine below_set ?_ GE123.out) | exact HB.out)⟩
              · rw [if_neg c10] at H
                exact absurd (H.trans (congrArg some hr_.out)) (by decide)
            · rw [if_neg c9] at H
              exact absurd (H.trans (congrArg some hr_.out)) (by decide)
          · rw [if_neg c8] at H
            exact absurd (H.trans (congrArg some hr_.out)) (by decide)
        · rw [if_neg c7] at H
          exact absurd (H.trans (congrArg some hr_.out)) (by decide)
      · rw [if_neg c6] at H
        exact absurd (H.trans (congrArg some hr_.out)) (by decide)
    · rw [if_neg c5] at H
      exact absurd (H.trans (congrArg some hr_.out)) (by decide)
  · rw [if_neg c4] at H
    exact absurd (H.trans (congrArg some hr_.out)) (by decide)

/-! ### pipe_Close: function 15 -/
def pipe_Close.f (a0_0 : ByteArray) (a0_1 : Int) (a0_2 : Int) (a1 : Bool) : Option (ByteArray × Int × Int × Int) := if a1 = true then (if a0_2 = 0 then (some ((⟨#[]⟩ : ByteArray), 0, 0, 18)) else (if a0_1 = 0 then (some ((⟨#[]⟩ : ByteArray), a0_1, wrap64 (a0_2 - 1), 0)) else (some (a0_0, a0_1, wrap64 (a0_2 - 1), 0)))) else (if a0_1 = 0 then (some ((⟨#[]⟩ : ByteArray), 0, 0, 18)) else (if (wrap64 (a0_1 - 1)) = 0 then (some ((⟨#[]⟩ : ByteArray), wrap64 (a0_1 - 1), a0_2, 0)) else (some (a0_0, wrap64 (a0_1 - 1), a0_2, 0))))
set_option maxHeartbeats 1000000 in
set_option maxRecDepth 100000 in
theorem close_w0 (d : ByteArray) (n m : Int) (w : World) (h : (m == 0) = true) : Calls Try.prog 15 #[.agg #[.string d, .int .i64 n, .int .i64 m], .bool true] w fun e w' => e = .returned (.tuple #[.agg #[.string (⟨#[]⟩ : ByteArray), .int .i64 0, .int .i64 0], .int .i64 18]) ∧ Below w.heap.size w w' := by
  have hu43 := Try.underlying43
  go_enter Try.func15, Try.ntmps15
  go_wp2
  exact bodyPost_ret (v := .tuple #[.agg #[.string (⟨#[]⟩ : ByteArray), .int .i64 0, .int .i64 0], .int .i64 18]) (by simp [results, Try.results15, go_sem]) rfl ⟨rfl, by repeat (first | exact Below.refl _ _ | apply below_alloc | apply below_set)⟩
set_option maxHeartbeats 1000000 in
set_option maxRecDepth 100000 in
theorem close_w1 (d : ByteArray) (n m : Int) (w : World) (h : (m == 0) = false) (h2 : (n == 0) = true) : Calls Try.prog 15 #[.agg #[.string d, .int .i64 n, .int .i64 m], .bool true] w fun e w' => e = .returned (.tuple #[.agg #[.string (⟨#[]⟩ : ByteArray), .int .i64 n, .int .i64 (wrap64 (m - 1))], .int .i64 0]) ∧ Below w.heap.size w w' := by
  have hu43 := Try.underlying43
  go_enter Try.func15, Try.ntmps15
  go_wp2
  exact bodyPost_ret (v := .tuple #[.agg #[.string (⟨#[]⟩ : ByteArray), .int .i64 n, .int .i64 (wrap64 (m - 1))], .int .i64 0]) (by simp [results, Try.results15, go_sem]) rfl ⟨rfl, by repeat (first | exact Below.refl _ _ | apply below_alloc | apply below_set)⟩
set_option maxHeartbeats 1000000 in
set_option maxRecDepth 100000 in
theorem close_w2 (d : ByteArray) (n m : Int) (w : World) (h : (m == 0) = false) (h2 : (n == 0) = false) : Calls Try.prog 15 #[.agg #[.string d, .int .i64 n, .int .i64 m], .bool true] w fun e w' => e = .returned (.tuple #[.agg #[.string d, .int .i64 n, .int .i64 (wrap64 (m - 1))], .int .i64 0]) ∧ Below w.heap.size w w' := by
  have hu43 := Try.underlying43
  go_enter Try.func15, Try.ntmps15
  go_wp2
  exact bodyPost_ret (v := .tuple #[.agg #[.string d, .int .i64 n, .int .i64 (wrap64 (m - 1))], .int .i64 0]) (by simp [results, Try.results15, go_sem]) rfl ⟨rfl, by repeat (first | exact Below.refl _ _ | apply below_alloc | apply below_set)⟩
set_option maxHeartbeats 1000000 in
set_option maxRecDepth 100000 in
theorem close_r0 (d : ByteArray) (n m : Int) (w : World) (h : (n == 0) = true) : Calls Try.prog 15 #[.agg #[.string d, .int .i64 n, .int .i64 m], .bool false] w fun e w' => e = .returned (.tuple #[.agg #[.string (⟨#[]⟩ : ByteArray), .int .i64 0, .int .i64 0], .int .i64 18]) ∧ Below w.heap.size w w' := by
  have hu43 := Try.underlying43
  go_enter Try.func15, Try.ntmps15
  go_wp2
  exact bodyPost_ret (v := .tuple #[.agg #[.string (⟨#[]⟩ : ByteArray), .int .i64 0, .int .i64 0], .int .i64 18]) (by simp [results, Try.results15, go_sem]) rfl ⟨rfl, by repeat (first | exact Below.refl _ _ | apply below_alloc | apply below_set)⟩
set_option maxHeartbeats 1000000 in
set_option maxRecDepth 100000 in
theorem close_r1 (d : ByteArray) (n m : Int) (w : World) (h : (n == 0) = false) (h2 : (wrap64 (n - 1) == 0) = true) : Calls Try.prog 15 #[.agg #[.string d, .int .i64 n, .int .i64 m], .bool false] w fun e w' => e = .returned (.tuple #[.agg #[.string (⟨#[]⟩ : ByteArray), .int .i64 (wrap64 (n - 1)), .int .i64 m], .int .i64 0]) ∧ Below w.heap.size w w' := by
  have hu43 := Try.underlying43
  go_enter Try.func15, Try.ntmps15
  go_wp2
  exact bodyPost_ret (v := .tuple #[.agg #[.string (⟨#[]⟩ : ByteArray), .int .i64 (wrap64 (n - 1)), .int .i64 m], .int .i64 0]) (by simp [results, Try.results15, go_sem]) rfl ⟨rfl, by repeat (first | exact Below.refl _ _ | apply below_alloc | apply below_set)⟩
set_option maxHeartbeats 1000000 in
set_option maxRecDepth 100000 in
theorem close_r2 (d : ByteArray) (n m : Int) (w : World) (h : (n == 0) = false) (h2 : (wrap64 (n - 1) == 0) = false) : Calls Try.prog 15 #[.agg #[.string d, .int .i64 n, .int .i64 m], .bool false] w fun e w' => e = .returned (.tuple #[.agg #[.string d, .int .i64 (wrap64 (n - 1)), .int .i64 m], .int .i64 0]) ∧ Below w.heap.size w w' := by
  have hu43 := Try.underlying43
  go_enter Try.func15, Try.ntmps15
  go_wp2
  exact bodyPost_ret (v := .tuple #[.agg #[.string d, .int .i64 (wrap64 (n - 1)), .int .i64 m], .int .i64 0]) (by simp [results, Try.results15, go_sem]) rfl ⟨rfl, by repeat (first | exact Below.refl _ _ | apply below_alloc | apply below_set)⟩
theorem pipe_Close.calls (a0_0 : ByteArray) (a0_1 : Int) (a0_2 : Int) (a1 : Bool) (r1 : ByteArray) (r2 : Int) (r3 : Int) (r4 : Int) (w : World) (h : pipe_Close.f a0_0 a0_1 a0_2 a1 = some (r1, r2, r3, r4)) :
    Calls Try.prog 15 #[.agg #[.string a0_0, .int .i64 a0_1, .int .i64 a0_2], .bool a1] w fun e w' => e = .returned (.tuple #[.agg #[.string r1, .int .i64 r2, .int .i64 r3], .int .i64 r4]) ∧ Below w.heap.size w w' := by
  unfold pipe_Close.f at h
  cases a1 with
  | true =>
    rw [if_pos rfl] at h
    split at h
    · rename_i c; cases h; exact close_w0 _ _ _ _ (beq_iff_eq.mpr c)
    · rename_i c; split at h
      · rename_i c2; cases h; exact close_w1 _ _ _ _ (beq_eq_false_iff_ne.mpr c) (beq_iff_eq.mpr c2)
      · rename_i c2; cases h; exact close_w2 _ _ _ _ (beq_eq_false_iff_ne.mpr c) (beq_eq_false_iff_ne.mpr c2)
  | false =>
    rw [if_neg (by decide)] at h
    split at h
    · rename_i c; cases h; exact close_r0 _ _ _ _ (beq_iff_eq.mpr c)
    · rename_i c; split at h
      · rename_i c2; cases h; exact close_r1 _ _ _ _ (beq_eq_false_iff_ne.mpr c) (beq_iff_eq.mpr c2)
      · rename_i c2; cases h; exact close_r2 _ _ _ _ (beq_eq_false_iff_ne.mpr c) (beq_eq_false_iff_ne.mpr c2)

end Go.Proofs.Ytmlhdepemeodkaa.A
