/- Of the proof of AsmexprEvals: RExp. Conditions: those of each theorem. -/
import Derived.Test.YtpinoobgnnlccaaERSpec
namespace Go.Proofs.Ytpinoobgnnlccaa.A
open Go.RowKit Go.Proofs.YtpinoobgnnlccaaW.PrintWords Go.Proofs.YtpinoobgnnlccaaW.PrintLast Go.Proofs.YtpinoobgnnlccaaW.PrintMore
attribute [local go_sem] max2_int min2_int max_two min_two max_three min_three max_four min_four
set_option linter.unusedVariables false
set_option linter.unusedSimpArgs false
mutual
def rexp27.l0 (D : Int) : Nat → Int → Int → List (S38) → List (S44) → Int → ByteArray → Int → Int → ByteArray → Int → Option (Int × ByteArray × Int × Int × Int)
 | 0, _, _, _, _, _, _, _, _, _, _ => none
 | k + 1, x1, x2, x139000, x139001, x139002, x139003, x139004, x146000, x146001, x146002 => if x1 < (x139000.length : Int) then (if 0 ≤ x1 then (if ((rd_T38 x139000 x1).f0) = 4 then ((emulatorref26_Operator.f ((rd_T38 x139000 x1).f1)).bind fun t148 => (rexp27.j1 D k x1 x2 t148 x139000 x139001 x139002 x139003 x139004 x146000 x146001 x146002)) else (rexp27.j1 D k x1 x2 false x139000 x139001 x139002 x139003 x139004 x146000 x146001 x146002)) else (none)) else (rexp27.j1 D k x1 x2 false x139000 x139001 x139002 x139003 x139004 x146000 x146001 x146002)
def rexp27.j1 (D : Int) : Nat → Int → Int → Bool → List (S38) → List (S44) → Int → ByteArray → Int → Int → ByteArray → Int → Option (Int × ByteArray × Int × Int × Int)
 | 0, _, _, _, _, _, _, _, _, _, _, _ => none
 | k + 1, x1, x2, x50, x139000, x139001, x139002, x139003, x139004, x146000, x146001, x146002 => if x50 = true then ((rtermF D  x139000 x139001 x139002 x139003 x139004 (wrap64 (x1 + 1)) x2).bind fun bt149 => (if bt149.2.2.2.2 = 0 then (if 0 ≤ x1 then (if x1 < (x139000.length : Int) then ((emulatorref26_Binary.f k ((rd_T38 x139000 x1).f1) x146000 x146001 x146002 bt149.1 bt149.2.1 bt149.2.2.1).bind fun bt156 => (if bt156.2.2.2 = 0 then (rexp27.l0 D k bt149.2.2.2.1 x2 x139000 x139001 x139002 x139003 x139004 bt156.1 bt156.2.1 bt156.2.2.1) else (some (0, (⟨#[]⟩ : ByteArray), 0, 0, bt156.2.2.2)))) else (none)) else (none)) else (some (0, (⟨#[]⟩ : ByteArray), 0, 0, bt149.2.2.2.2)))) else (some (x146000, x146001, x146002, x1, 0))
end
def rexp27.f (D : Int) (k : Nat) (l0_0 : List (S38)) (l0_1 : List (S44)) (a0_2 : Int) (a0_3 : ByteArray) (a0_4 : Int) (a1 : Int) (a2 : Int) : Option (Int × ByteArray × Int × Int × Int) := (rtermF D  l0_0 l0_1 a0_2 a0_3 a0_4 a1 a2).bind fun bt140 => (if bt140.2.2.2.2 = 0 then (rexp27.l0 D k bt140.2.2.2.1 a2 l0_0 l0_1 a0_2 a0_3 a0_4 bt140.1 bt140.2.1 bt140.2.2.1) else (some (0, (⟨#[]⟩ : ByteArray), 0, 0, bt140.2.2.2.2)))
def rexp27.T8 : Bool × List (List Nat × List Nat) := (true, [([], []), ([0], [0]), ([], []), ([1, 2], [1, 2]), ([3], [3]), ([4], [4]), ([], []), ([], []), ([5, 6, 7], [5, 6, 7]), ([8], [8]), ([9], [9]), ([9], [9]), ([], []), ([12, 10, 8, 0, 1, 2, 3, 4, 5, 6, 7, 8, 9, 10, 12], [10, 12]), ([11, 13, 0, 1, 2, 3, 4, 5, 6, 7, 8, 9, 10, 11, 12, 13], [11])])
def rexp27.B8 : List Nat := [0, 1, 0, 7, 15, 31, 0, 0, 255, 511, 1023, 1023, 0, 6143, 16383]
theorem rexp27.tab8 : rtab .any (opsOf Try.f27 8) = rexp27.T8 := by kernel_rfl
theorem rexp27.bits8 : waitsOk rexp27.T8.2 rexp27.B8 = true := by kernel_rfl
set_option maxHeartbeats 8000000 in
set_option maxRecDepth 100000 in
theorem rexp27.calls (D : Int) (hT : TermC D) (k : Nat) (A0_0 : Option Addr) (c0_0 : Nat) (l0_0 : List (S38)) (A0_1 : Option Addr) (c0_1 : Nat) (l0_1 : List (S44)) (a0_2 : Int) (a0_3 : ByteArray) (a0_4 : Int) (a1 : Int) (a2 : Int) (r1 : Int) (r2 : ByteArray) (r3 : Int) (r4 : Int) (r5 : Int) (w : World) (hr0_0 : Kd.C k38 w A0_0 l0_0.length l0_0) (hc0_0 : l0_0.length ≤ c0_0) (hr0_1 : Kd.C k44 w A0_1 l0_1.length l0_1) (hc0_1 : l0_1.length ≤ c0_1) (h : rexp27.f D k l0_0 l0_1 a0_2 a0_3 a0_4 a1 a2 = some (r1, r2, r3, r4, r5)) :
  Calls Try.prog 27 #[.agg #[.slice A0_0 l0_0.length c0_0, .slice A0_1 l0_1.length c0_1, .int .i64 a0_2, .string a0_3, .int .i64 a0_4], .int .i64 a1, .int .i64 a2] w fun e w' => e = .returned (.tuple #[.agg #[.int .i64 r1, .string r2, .int .i64 r3], .int .i64 r4, .int .i64 r5]) ∧ Below w.heap.size w w' := by
 have HT := Aside0.mk hT
 clear hT
 have hu58 := Try.underlying58
 have hu24 := Try.underlying24
 have HR0_0 := Aside0.mk hr0_0
 have HC0_0 := Aside0.mk hc0_0
 clear hr0_0 hc0_0
 have HR0_1 := Aside0.mk hr0_1
 have HC0_1 := Aside0.mk hc0_1
 clear hr0_1 hc0_1
 have HB := Aside0.mk (Below.refl w.heap.size w)
 have H : ((rtermF D  l0_0 l0_1 a0_2 a0_3 a0_4 a1 a2).bind fun bt140 => (if bt140.2.2.2.2 = 0 then (rexp27.l0 D k bt140.2.2.2.1 a2 l0_0 l0_1 a0_2 a0_3 a0_4 bt140.1 bt140.2.1 bt140.2.2.1) else (some (0, (⟨#[]⟩ : ByteArray), 0, 0, bt140.2.2.2.2)))) = some (r1, r2, r3, r4, r5) := h
 clear h
 replace H := Option.bind_eq_some_iff.mp H
 obtain ⟨⟨t140, t141, t142, t143, t144⟩, A40, H⟩ := H
 replace H : (if t144 = 0 then (rexp27.l0 D k t143 a2 l0_0 l0_1 a0_2 a0_3 a0_4 t140 t141 t142) else (some (0, (⟨#[]⟩ : ByteArray), 0, 0, t144))) = some (r1, r2, r3, r4, r5) := H
 have A4 := Aside0.mk A40
 clear A40
 by_cases c5 : t144 = 0
 ·rw [if_pos c5] at H
  have c5b0 : (t144 == 0) = true := beq_iff_eq.mpr c5
  have c5b1 : (t144 != 0) = false := bne_eq_false_iff_eq.mpr c5
  clear c5
  have H' := Aside0.mk H
  clear H
  go_enter Try.func27, Try.ntmps27
  go_wp2_with (first | ((with_reducible refine gate_dst (N := 3) rfl ?_); refine box_event ?hg (N := 3) ?hd (cs := #[.slice A0_0 l0_0.length c0_0, .slice A0_1 l0_1.length c0_1, .int .i64 a0_2, .string a0_3, .int .i64 a0_4]) (t := 58) ?hr ?_; (case hd => rfl); (case hg => rfl); (case hr => first | (go_simp; done) | (go_simp; rfl)); intro gb138 hg w6 hbox hb; have n0_ := Aside0.mk (below_step (by repeat (first|(with_reducible first | exact HB.out | apply below_alloc | apply pw_below_drewN | apply below_drew1) | exact HB.out)) hb); have n1_ := Aside0.mk (hbox); have n2_ := Aside0.mk ((by rw [hg]; exact (below_size (by repeat (first|(with_reducible first | exact HB.out | apply below_alloc | apply pw_below_drewN | apply below_drew1) | exact HB.out))) : w.heap.size ≤ gb138)); have n3_ := n2_; clear HB; have HB := n0_; have BK138 := n1_; have GW138 := n2_; have GE138 := n3_; clear n0_ n1_ n2_ n3_; clear hb hbox hg) | ((with_reducible refine gate_dst (N := 6) rfl ?_); refine box_event ?hg (N := 6) ?hd (cs := #[.int .i64 0, .string (⟨#[]⟩ : ByteArray), .int .i64 0]) (t := 24) ?hr ?_; (case hd => rfl); (case hg => rfl); (case hr => first | (go_simp; done) | (go_simp; rfl)); intro gb139 hg w7 hbox hb; have n0_ := Aside0.mk (blk_below (by (with_reducible repeat(first|apply bN|apply bD)); exact BK138.out) hb); have n1_ := Aside0.mk (below_step (by repeat (first|(with_reducible first | exact HB.out | apply below_alloc | apply pw_below_drewN | apply below_drew1 | refine below_set ?_ GE138.out) | exact HB.out)) hb); have n2_ := Aside0.mk (hbox); have n3_ := Aside0.mk ((by rw [hg]; exact (below_size (by repeat (first|(with_reducible first | exact HB.out | apply below_alloc | apply pw_below_drewN | apply below_drew1 | refine below_set ?_ GE138.out) | exact HB.out))) : w.heap.size ≤ gb139)); have n4_ := n3_; have n5_ := Aside0.mk ((by rw [hg]; exact Nat.ne_of_lt (blk_lt (by (with_reducible repeat(first|apply bN|apply bD)); exact BK138.out)) : gb138 ≠ gb139)); have n6_ := Aside0.mk n5_.out.symm; clear BK138; clear HB; have BK138 := n0_; have HB := n1_; have BK139 := n2_; have GW139 := n3_; have GE139 := n4_; have NB138_139 := n5_; have NB139_138 := n6_; clear n0_ n1_ n2_ n3_ n4_ n5_ n6_; clear hb hbox hg; have hnb8 := NB138_139.out; have hnc8 := NB139_138.out; have hcz9_0 : w7.cell? ⟨gb138, 0, none⟩ = some (.slice A0_0 l0_0.length c0_0) := (blk_cell BK138.out 0).trans rfl; have hcz9_1 : w7.cell? ⟨gb138, 1, none⟩ = some (.slice A0_1 l0_1.length c0_1) := (blk_cell BK138.out 1).trans rfl; have hcz9_2 : w7.cell? ⟨gb138, 2, none⟩ = some (.int .i64 a0_2) := (blk_cell BK138.out 2).trans rfl; have hcz9_3 : w7.cell? ⟨gb138, 3, none⟩ = some (.string a0_3) := (blk_cell BK138.out 3).trans rfl; have hcz9_4 : w7.cell? ⟨gb138, 4, none⟩ = some (.int .i64 a0_4) := (blk_cell BK138.out 4).trans rfl; have hfz9_0 := blk_frozen BK138.out 0; have hfz9_1 := blk_frozen BK138.out 1; have hfz9_2 := blk_frozen BK138.out 2; have hfz9_3 := blk_frozen BK138.out 3; have hfz9_4 := blk_frozen BK138.out 4) | ((with_reducible refine gate_callee (f := 36) rfl ?_); refine goesL_ (some 20) rfl rfl Try.func36 (by kernel_rfl) rfl #[.agg #[.slice A0_0 l0_0.length c0_0, .slice A0_1 l0_1.length c0_1, .int .i64 a0_2, .string a0_3, .int .i64 a0_4], .int .i64 a1, .int .i64 a2] rfl (by (try simp only [List.map_toArray, List.map_cons, List.map_nil]); first | done | rfl | (simp only [List.length_drop, List.length_take]; rfl)) ?_; (with_reducible refine (HT.out _ _ l0_0 _ _ l0_1 a0_2 a0_3 a0_4 a1 a2 t140 t141 t142 t143 t144 _ ?side1 ?side2 ?side3 ?side4 A4.out).mono ?_); (case side1 => repeat (first | exact (Kd.C_below HR0_0.out HB.out)|(with_reducible refine Kd.C_alloc ?_ _)|(with_reducible refine Kd.C_drewN ?_ _)|(with_reducible refine Kd.C_drew ?_))); (case side2 => exact HC0_0.out); (case side3 => repeat (first | exact (Kd.C_below HR0_1.out HB.out)|(with_reducible refine Kd.C_alloc ?_ _)|(with_reducible refine Kd.C_drewN ?_ _)|(with_reducible refine Kd.C_drew ?_))); (case side4 => exact HC0_1.out); rintro e w10 ⟨rfl, hb⟩; refine ⟨_, rfl, ?_⟩; have n0_ := Aside0.mk (blk_below (by (with_reducible repeat(first|apply bN|apply bD)); exact BK138.out) hb); have n1_ := Aside0.mk (blk_below (by (with_reducible repeat(first|apply bN|apply bD)); exact BK139.out) hb); have n2_ := Aside0.mk (below_step (by repeat (first|(with_reducible first | exact HB.out | apply below_alloc | apply pw_below_drewN | apply below_drew1 | refine below_set ?_ GE138.out | refine below_set ?_ GE139.out) | exact HB.out)) hb); clear BK138; clear BK139; clear HB; have BK138 := n0_; have BK139 := n1_; have HB := n2_; clear n0_ n1_ n2_; (try clear hb); (try clear hb2); (try clear hk); (try clear hi)) | ((with_reducible refine gate_dst (N := 9) rfl ?_); refine box_event ?hg (N := 9) ?hd (cs := #[.int .i64 0, .string (⟨#[]⟩ : ByteArray), .int .i64 0]) (t := 24) ?hr ?_; (case hd => rfl); (case hg => rfl); (case hr => first | (go_simp; done) | (go_simp; rfl)); intro gb145 hg w11 hbox hb; have n0_ := Aside0.mk (blk_below (by (with_reducible repeat(first|apply bN|apply bD)); exact BK138.out) hb); have n1_ := Aside0.mk (blk_below (by (with_reducible repeat(first|apply bN|apply bD)); exact BK139.out) hb); have n2_ := Aside0.mk (below_step (by repeat (first|(with_reducible first | exact HB.out | apply below_alloc | apply pw_below_drewN | apply below_drew1 | refine below_set ?_ GE138.out | refine below_set ?_ GE139.out) | exact HB.out)) hb); have n3_ := Aside0.mk (hbox); have n4_ := Aside0.mk ((by rw [hg]; exact (below_size (by repeat (first|(with_reducible first | exact HB.out | apply below_alloc | apply pw_below_drewN | apply below_drew1 | refine below_set ?_ GE138.out | refine below_set ?_ GE139.out) | exact HB.out))) : w.heap.size ≤ gb145)); have n5_ := n4_; have n6_ := Aside0.mk ((by rw [hg]; exact Nat.ne_of_lt (blk_lt (by (with_reducible repeat(first|apply bN|apply bD)); exact BK138.out)) : gb138 ≠ gb145)); have n7_ := Aside0.mk n6_.out.symm; have n8_ := Aside0.mk ((by rw [hg]; exact Nat.ne_of_lt (blk_lt (by (with_reducible repeat(first|apply bN|apply bD)); exact BK139.out)) : gb139 ≠ gb145)); have n9_ := Aside0.mk n8_.out.symm; clear BK138; clear BK139; clear HB; have BK138 := n0_; have BK139 := n1_; have HB := n2_; have BK145 := n3_; have GW145 := n4_; have GE145 := n5_; have NB138_145 := n6_; have NB145_138 := n7_; have NB139_145 := n8_; have NB145_139 := n9_; clear n0_ n1_ n2_ n3_ n4_ n5_ n6_ n7_ n8_ n9_; clear hb hbox hg; have hnb12 := NB145_138.out; have hnc12 := NB138_145.out; have hnb13 := NB145_139.out; have hnc13 := NB139_145.out; have hcz14_0 : w11.cell? ⟨gb145, 0, none⟩ = some (.int .i64 0) := (blk_cell BK145.out 0).trans rfl; have hcz14_1 : w11.cell? ⟨gb145, 1, none⟩ = some (.string (⟨#[]⟩ : ByteArray)) := (blk_cell BK145.out 1).trans rfl; have hcz14_2 : w11.cell? ⟨gb145, 2, none⟩ = some (.int .i64 0) := (blk_cell BK145.out 2).trans rfl; have hfz14_0 := blk_frozen BK145.out 0; have hfz14_1 := blk_frozen BK145.out 1; have hfz14_2 := blk_frozen BK145.out 2))
  go_loopg [1] k (fun kq v1 w' => ∃ (x1_1 : Int) (x140000_1 : Int) (x140001_1 : ByteArray) (x140002_1 : Int) (x146000_1 : Int) (x146001_1 : ByteArray) (x146002_1 : Int), v1 = .int .i64 x1_1 ∧ Aside0 (rexp27.l0 D kq x1_1 a2 l0_0 l0_1 a0_2 a0_3 a0_4 x146000_1 x146001_1 x146002_1 = some (r1, r2, r3, r4, r5)) ∧ Aside0 (kq ≤ k) ∧ Aside0 (w'.heap[gb138]? = some (.cells #[(.slice A0_0 l0_0.length c0_0), (.slice A0_1 l0_1.length c0_1), .int .i64 a0_2, .string a0_3, .int .i64 a0_4] 58 (0, 0))) ∧ Aside0 (w'.heap[gb139]? = some (.cells #[.int .i64 x140000_1, .string x140001_1, .int .i64 x140002_1] 24 (0, 0))) ∧ Aside0 (w'.heap[gb145]? = some (.cells #[.int .i64 x146000_1, .string x146001_1, .int .i64 x146002_1] 24 (0, 0))) ∧ Aside0 (Below w.heap.size w w'))
  case atStart => exact ⟨(t143), (0), ((⟨#[]⟩ : ByteArray)), (0), (t140), (t141), (t142), (by first | rfl | (simp; done) | (simp [*]; done)), H', ⟨Nat.le_refl _⟩, ⟨by (with_reducible repeat(first|apply bN|apply bD)); refine blk_far ?_ NB138_145.out _; (with_reducible repeat(first|apply bN|apply bD)); refine blk_far ?_ NB138_145.out _; (with_reducible repeat(first|apply bN|apply bD)); refine blk_far ?_ NB138_145.out _; (with_reducible repeat(first|apply bN|apply bD)); exact BK138.out⟩, ⟨by (with_reducible repeat(first|apply bN|apply bD)); refine blk_far ?_ NB139_145.out _; (with_reducible repeat(first|apply bN|apply bD)); refine blk_far ?_ NB139_145.out _; (with_reducible repeat(first|apply bN|apply bD)); refine blk_far ?_ NB139_145.out _; (with_reducible repeat(first|apply bN|apply bD)); exact BK139.out⟩, ⟨by (with_reducible repeat(first|apply bN|apply bD)); refine blk_put (cs := #[.int .i64 t140, .string t141, .int .i64 0]) ?_ 2 _ rfl; (with_reducible repeat(first|apply bN|apply bD)); refine blk_put (cs := #[.int .i64 t140, .string (⟨#[]⟩ : ByteArray), .int .i64 0]) ?_ 1 _ rfl; (with_reducible repeat(first|apply bN|apply bD)); refine blk_put (cs := #[.int .i64 0, .string (⟨#[]⟩ : ByteArray), .int .i64 0]) ?_ 0 _ rfl; (with_reducible repeat(first|apply bN|apply bD)); exact BK145.out⟩, ⟨by repeat (first|(with_reducible first | exact HB.out | apply below_alloc | apply pw_below_drewN | apply below_drew1 | refine below_set ?_ GE138.out | refine below_set ?_ GE139.out | refine below_set ?_ GE145.out) | exact HB.out)⟩⟩
  case round =>
   clear H'
   try clear c1
   try clear c2
   try clear p2
   try clear c3
   try clear c5
   try clear c5b0
   try clear c5b1
   try clear c8
   try clear c12
   try clear c13
   try clear hcz14_0
   try clear hcz14_1
   try clear hcz14_2
   try clear hcz9_0
   try clear hcz9_1
   try clear hcz9_2
   try clear hcz9_3
   try clear hcz9_4
   try clear hfz14_0
   try clear hfz14_1
   try clear hfz14_2
   try clear hfz9_0
   try clear hfz9_1
   try clear hfz9_2
   try clear hfz9_3
   try clear hfz9_4
   obtain ⟨x1_1, x140000_1, x140001_1, x140002_1, x146000_1, x146001_1, x146002_1, rfl, HA, HK1, BK138, BK139, BK145, HB⟩ := hrel
   cases gk with
   | zero => exact absurd HA.out (by simp [rexp27.l0])
   | succ k1 =>
    have H := HA.out
    clear HA
    simp only [rexp27.l0] at H
    have HC15 := Aside0.mk H
    clear H
    go_upto_region 4 with (fail)
    go_cut [50] (fun v50 wc => ∃ (kq : Nat) (x50_14 : Bool), v50 = .bool x50_14 ∧ Aside0 (rexp27.j1 D kq x1_1 a2 x50_14 l0_0 l0_1 a0_2 a0_3 a0_4 x146000_1 x146001_1 x146002_1 = some (r1, r2, r3, r4, r5)) ∧ Aside0 (kq ≤ k1) ∧ Aside0 (wc.heap[gb138]? = some (.cells #[(.slice A0_0 l0_0.length c0_0), (.slice A0_1 l0_1.length c0_1), .int .i64 a0_2, .string a0_3, .int .i64 a0_4] 58 (0, 0))) ∧ Aside0 (wc.heap[gb139]? = some (.cells #[.int .i64 x140000_1, .string x140001_1, .int .i64 x140002_1] 24 (0, 0))) ∧ Aside0 (wc.heap[gb145]? = some (.cells #[.int .i64 x146000_1, .string x146001_1, .int .i64 x146002_1] 24 (0, 0))) ∧ Aside0 (Below w.heap.size w wc))
    case first =>
     have H := HC15.out
     clear HC15
     by_cases c16 : x1_1 < (l0_0.length : Int)
     ·rw [if_pos c16] at H
      have c16b0 : decide (x1_1 < (l0_0.length : Int)) = true := decide_eq_true c16
      clear c16
      (first | rw [c16b0] | (simp only [i64_w, i32_w]; rw [c16b0]) | skip)
      by_cases c17 : 0 ≤ x1_1
      ·rw [if_pos c17] at H
       have c17b0 : decide (0 ≤ x1_1) = true := decide_eq_true c17
       clear c17
       by_cases c18 : ((rd_T38 l0_0 x1_1).f0) = 4
       ·rw [if_pos c18] at H
        have c18b0 : (((rd_T38 l0_0 x1_1).f0) == 4) = true := beq_iff_eq.mpr c18
        have c18b1 : (((rd_T38 l0_0 x1_1).f0) != 4) = false := bne_eq_false_iff_eq.mpr c18
        clear c18
        replace H := Option.bind_eq_some_iff.mp H
        obtain ⟨t148, A190, H⟩ := H
        replace H : (rexp27.j1 D k1 x1_1 a2 t148 l0_0 l0_1 a0_2 a0_3 a0_4 x146000_1 x146001_1 x146002_1) = some (r1, r2, r3, r4, r5) := H
        have A19 := Aside0.mk A190
        clear A190
        have H' := Aside0.mk H
        clear H
        have hnb20 := NB138_139.out
        have hnc20 := NB139_138.out
        have hnb21 := NB138_145.out
        have hnc21 := NB145_138.out
        have hcz22_0 : wr.cell? ⟨gb138, 0, none⟩ = some (.slice A0_0 l0_0.length c0_0) := (blk_cell BK138.out 0).trans rfl
        have hcz22_1 : wr.cell? ⟨gb138, 1, none⟩ = some (.slice A0_1 l0_1.length c0_1) := (blk_cell BK138.out 1).trans rfl
        have hcz22_2 : wr.cell? ⟨gb138, 2, none⟩ = some (.int .i64 a0_2) := (blk_cell BK138.out 2).trans rfl
        have hcz22_3 : wr.cell? ⟨gb138, 3, none⟩ = some (.string a0_3) := (blk_cell BK138.out 3).trans rfl
        have hcz22_4 : wr.cell? ⟨gb138, 4, none⟩ = some (.int .i64 a0_4) := (blk_cell BK138.out 4).trans rfl
        have hfz22_0 := blk_frozen BK138.out 0
        have hfz22_1 := blk_frozen BK138.out 1
        have hfz22_2 := blk_frozen BK138.out 2
        have hfz22_3 := blk_frozen BK138.out 3
        have hfz22_4 := blk_frozen BK138.out 4
        have p146 : 0 ≤ (x1_1 : Int) := of_decide_eq_true (by first|(with_reducible assumption) | assumption)
        have q146 : x1_1 < (l0_0.length : Int) := of_decide_eq_true (by first|(with_reducible assumption) | assumption)
        obtain ⟨ad146, e146, hx146_0, hx146_1, hx146_2, hx146_3⟩ := at_T38 HR0_0.out x1_1 p146 q146
        cases e146
        replace hx146_0 := (HB.out.cell (World.block_lt_of_cell? w _ hx146_0)).trans hx146_0
        replace hx146_1 := (HB.out.cell (World.block_lt_of_cell? w _ hx146_1)).trans hx146_1
        replace hx146_2 := (HB.out.cell (World.block_lt_of_cell? w _ hx146_2)).trans hx146_2
        replace hx146_3 := (HB.out.cell (World.block_lt_of_cell? w _ hx146_3)).trans hx146_3
        replace p146 := eq_true p146
        replace q146 := eq_true q146
        have p147 : 0 ≤ (x1_1 : Int) := of_decide_eq_true (by first|(with_reducible assumption) | assumption)
        have q147 : x1_1 < (l0_0.length : Int) := of_decide_eq_true (by first|(with_reducible assumption) | assumption)
        obtain ⟨ad147, e147, hx147_0, hx147_1, hx147_2, hx147_3⟩ := at_T38 HR0_0.out x1_1 p147 q147
        obtain rfl : ad146 = ad147 := (by injection e147)
        replace hx147_0 := (HB.out.cell (World.block_lt_of_cell? w _ hx147_0)).trans hx147_0
        replace hx147_1 := (HB.out.cell (World.block_lt_of_cell? w _ hx147_1)).trans hx147_1
        replace hx147_2 := (HB.out.cell (World.block_lt_of_cell? w _ hx147_2)).trans hx147_2
        replace hx147_3 := (HB.out.cell (World.block_lt_of_cell? w _ hx147_3)).trans hx147_3
        replace p147 := eq_true p147
        replace q147 := eq_true q147
        go_wp2_with (first | (go_at_call 32; (with_reducible refine (emulatorref26_Operator.calls ((rd_T38 l0_0 x1_1).f1) t148 _ A19.out).mono ?_); rintro e w' ⟨rfl, ⟨nd, rfl⟩⟩))
        go_meet
        case rel => exact ⟨_, (t148), (by first | rfl | (simp; done) | (simp [*]; done)), H', ⟨by have := HK1.out; first | omega | exact Nat.le_refl _⟩, ⟨by (with_reducible repeat(first|apply bN|apply bD)); exact BK138.out⟩, ⟨by (with_reducible repeat(first|apply bN|apply bD)); exact BK139.out⟩, ⟨by (with_reducible repeat(first|apply bN|apply bD)); exact BK145.out⟩, ⟨by repeat (first|(with_reducible first | exact HB.out | apply below_alloc | apply pw_below_drewN | apply below_drew1 | refine below_set ?_ GE138.out | refine below_set ?_ GE139.out | refine below_set ?_ GE145.out) | exact HB.out)⟩⟩
       ·rw [if_neg c18] at H
        have c18b0 : (((rd_T38 l0_0 x1_1).f0) == 4) = false := beq_eq_false_iff_ne.mpr c18
        have c18b1 : (((rd_T38 l0_0 x1_1).f0) != 4) = true := bne_iff_ne.mpr c18
        have H' := Aside0.mk H
        clear H
        have hnb23 := NB138_139.out
        have hnc23 := NB139_138.out
        have hnb24 := NB138_145.out
        have hnc24 := NB145_138.out
        have hcz25_0 : wr.cell? ⟨gb138, 0, none⟩ = some (.slice A0_0 l0_0.length c0_0) := (blk_cell BK138.out 0).trans rfl
        have hcz25_1 : wr.cell? ⟨gb138, 1, none⟩ = some (.slice A0_1 l0_1.length c0_1) := (blk_cell BK138.out 1).trans rfl
        have hcz25_2 : wr.cell? ⟨gb138, 2, none⟩ = some (.int .i64 a0_2) := (blk_cell BK138.out 2).trans rfl
        have hcz25_3 : wr.cell? ⟨gb138, 3, none⟩ = some (.string a0_3) := (blk_cell BK138.out 3).trans rfl
        have hcz25_4 : wr.cell? ⟨gb138, 4, none⟩ = some (.int .i64 a0_4) := (blk_cell BK138.out 4).trans rfl
        have hfz25_0 := blk_frozen BK138.out 0
        have hfz25_1 := blk_frozen BK138.out 1
        have hfz25_2 := blk_frozen BK138.out 2
        have hfz25_3 := blk_frozen BK138.out 3
        have hfz25_4 := blk_frozen BK138.out 4
        have p146 : 0 ≤ (x1_1 : Int) := of_decide_eq_true (by first|(with_reducible assumption) | assumption)
        have q146 : x1_1 < (l0_0.length : Int) := of_decide_eq_true (by first|(with_reducible assumption) | assumption)
        obtain ⟨ad146, e146, hx146_0, hx146_1, hx146_2, hx146_3⟩ := at_T38 HR0_0.out x1_1 p146 q146
        cases e146
        replace hx146_0 := (HB.out.cell (World.block_lt_of_cell? w _ hx146_0)).trans hx146_0
        replace hx146_1 := (HB.out.cell (World.block_lt_of_cell? w _ hx146_1)).trans hx146_1
        replace hx146_2 := (HB.out.cell (World.block_lt_of_cell? w _ hx146_2)).trans hx146_2
        replace hx146_3 := (HB.out.cell (World.block_lt_of_cell? w _ hx146_3)).trans hx146_3
        replace p146 := eq_true p146
        replace q146 := eq_true q146
        go_wp2
        go_meet
        case rel => exact ⟨_, (false), (by first | rfl | (simp; done) | (simp [*]; done)), H', ⟨by have := HK1.out; first | omega | exact Nat.le_refl _⟩, ⟨by (with_reducible repeat(first|apply bN|apply bD)); exact BK138.out⟩, ⟨by (with_reducible repeat(first|apply bN|apply bD)); exact BK139.out⟩, ⟨by (with_reducible repeat(first|apply bN|apply bD)); exact BK145.out⟩, ⟨by repeat (first|(with_reducible first | exact HB.out | apply below_alloc | apply pw_below_drewN | apply below_drew1 | refine below_set ?_ GE138.out | refine below_set ?_ GE139.out | refine below_set ?_ GE145.out) | exact HB.out)⟩⟩
      ·rw [if_neg c17] at H
       exact absurd H (by simp)
     ·rw [if_neg c16] at H
      have c16b0 : decide (x1_1 < (l0_0.length : Int)) = false := decide_eq_false c16
      clear c16
      (first | rw [c16b0] | (simp only [i64_w, i32_w]; rw [c16b0]) | skip)
      have H' := Aside0.mk H
      clear H
      have hnb26 := NB138_139.out
      have hnc26 := NB139_138.out
      have hnb27 := NB138_145.out
      have hnc27 := NB145_138.out
      have hcz28_0 : wr.cell? ⟨gb138, 0, none⟩ = some (.slice A0_0 l0_0.length c0_0) := (blk_cell BK138.out 0).trans rfl
      have hcz28_1 : wr.cell? ⟨gb138, 1, none⟩ = some (.slice A0_1 l0_1.length c0_1) := (blk_cell BK138.out 1).trans rfl
      have hcz28_2 : wr.cell? ⟨gb138, 2, none⟩ = some (.int .i64 a0_2) := (blk_cell BK138.out 2).trans rfl
      have hcz28_3 : wr.cell? ⟨gb138, 3, none⟩ = some (.string a0_3) := (blk_cell BK138.out 3).trans rfl
      have hcz28_4 : wr.cell? ⟨gb138, 4, none⟩ = some (.int .i64 a0_4) := (blk_cell BK138.out 4).trans rfl
      have hfz28_0 := blk_frozen BK138.out 0
      have hfz28_1 := blk_frozen BK138.out 1
      have hfz28_2 := blk_frozen BK138.out 2
      have hfz28_3 := blk_frozen BK138.out 3
      have hfz28_4 := blk_frozen BK138.out 4
      go_wp2
      go_meet
      case rel => exact ⟨_, (false), (by first | rfl | (simp; done) | (simp [*]; done)), H', ⟨by have := HK1.out; first | omega | exact Nat.le_refl _⟩, ⟨by (with_reducible repeat(first|apply bN|apply bD)); exact BK138.out⟩, ⟨by (with_reducible repeat(first|apply bN|apply bD)); exact BK139.out⟩, ⟨by (with_reducible repeat(first|apply bN|apply bD)); exact BK145.out⟩, ⟨by repeat (first|(with_reducible first | exact HB.out | apply below_alloc | apply pw_below_drewN | apply below_drew1 | refine below_set ?_ GE138.out | refine below_set ?_ GE139.out | refine below_set ?_ GE145.out) | exact HB.out)⟩⟩
    case rest =>
     clear HC15
     try clear c1
     try clear p1
     try clear q1
     try clear hx1
     try clear c2
     try clear p2
     try clear c3
     try clear c5
     try clear c5b0
     try clear c5b1
     try clear c8
     try clear c12
     try clear c13
     try clear p14
     try clear q14
     try clear hx14
     try clear c16
     try clear c16b0
     try clear c17
     try clear c17b0
     try clear c18
     try clear c18b0
     try clear c18b1
     try clear c20
     try clear c21
     try clear c23
     try clear c24
     try clear c26
     try clear c27
     try clear hcz14_0
     try clear hcz14_1
     try clear hcz14_2
     try clear hcz22_0
     try clear hcz22_1
     try clear hcz22_2
     try clear hcz22_3
     try clear hcz22_4
     try clear hcz25_0
     try clear hcz25_1
     try clear hcz25_2
     try clear hcz25_3
     try clear hcz25_4
     try clear hcz28_0
     try clear hcz28_1
     try clear hcz28_2
     try clear hcz28_3
     try clear hcz28_4
     try clear hcz9_0
     try clear hcz9_1
     try clear hcz9_2
     try clear hcz9_3
     try clear hcz9_4
     try clear hfz14_0
     try clear hfz14_1
     try clear hfz14_2
     try clear hfz22_0
     try clear hfz22_1
     try clear hfz22_2
     try clear hfz22_3
     try clear hfz22_4
     try clear hfz25_0
     try clear hfz25_1
     try clear hfz25_2
     try clear hfz25_3
     try clear hfz25_4
     try clear hfz28_0
     try clear hfz28_1
     try clear hfz28_2
     try clear hfz28_3
     try clear hfz28_4
     try clear hfz9_0
     try clear hfz9_1
     try clear hfz9_2
     try clear hfz9_3
     try clear hfz9_4
     try clear hx146_0
     try clear hx146_1
     try clear hx146_2
     try clear hx146_3
     try clear hx147_0
     try clear hx147_1
     try clear hx147_2
     try clear hx147_3
     try clear p146
     try clear p147
     try clear p2
     try clear q146
     try clear q147
     obtain ⟨kq, x50_14, rfl, HA, HJ14, BK138, BK139, BK145, HB⟩ := hcut
     cases kq with
     | zero => exact absurd HA.out (by simp [rexp27.j1])
     | succ kj14 =>
      have H := HA.out
      clear HA
      simp only [rexp27.j1] at H
      by_cases c29 : x50_14 = true
      ·subst c29
       have H1 : ((rtermF D  l0_0 l0_1 a0_2 a0_3 a0_4 (wrap64 (x1_1 + 1)) a2).bind fun bt149 => (if bt149.2.2.2.2 = 0 then (if 0 ≤ x1_1 then (if x1_1 < (l0_0.length : Int) then ((emulatorref26_Binary.f kj14 ((rd_T38 l0_0 x1_1).f1) x146000_1 x146001_1 x146002_1 bt149.1 bt149.2.1 bt149.2.2.1).bind fun bt156 => (if bt156.2.2.2 = 0 then (rexp27.l0 D kj14 bt149.2.2.2.1 a2 l0_0 l0_1 a0_2 a0_3 a0_4 bt156.1 bt156.2.1 bt156.2.2.1) else (some (0, (⟨#[]⟩ : ByteArray), 0, 0, bt156.2.2.2)))) else (none)) else (none)) else (some (0, (⟨#[]⟩ : ByteArray), 0, 0, bt149.2.2.2.2)))) = some (r1, r2, r3, r4, r5) := by rw [if_pos rfl] at H; exact H
       clear H
       have H := H1
       clear H1
       replace H := Option.bind_eq_some_iff.mp H
       obtain ⟨⟨t149, t150, t151, t152, t153⟩, A300, H⟩ := H
       replace H : (if t153 = 0 then (if 0 ≤ x1_1 then (if x1_1 < (l0_0.length : Int) then ((emulatorref26_Binary.f kj14 ((rd_T38 l0_0 x1_1).f1) x146000_1 x146001_1 x146002_1 t149 t150 t151).bind fun bt156 => (if bt156.2.2.2 = 0 then (rexp27.l0 D kj14 t152 a2 l0_0 l0_1 a0_2 a0_3 a0_4 bt156.1 bt156.2.1 bt156.2.2.1) else (some (0, (⟨#[]⟩ : ByteArray), 0, 0, bt156.2.2.2)))) else (none)) else (none)) else (some (0, (⟨#[]⟩ : ByteArray), 0, 0, t153))) = some (r1, r2, r3, r4, r5) := H
       have A30 := Aside0.mk A300
       clear A300
       by_cases c31 : t153 = 0
       ·rw [if_pos c31] at H
        have c31b0 : (t153 == 0) = true := beq_iff_eq.mpr c31
        have c31b1 : (t153 != 0) = false := bne_eq_false_iff_eq.mpr c31
        clear c31
        by_cases c32 : 0 ≤ x1_1
        ·rw [if_pos c32] at H
         have c32b0 : decide (0 ≤ x1_1) = true := decide_eq_true c32
         clear c32
         by_cases c33 : x1_1 < (l0_0.length : Int)
         ·rw [if_pos c33] at H
          have c33b0 : decide (x1_1 < (l0_0.length : Int)) = true := decide_eq_true c33
          clear c33
          replace H := Option.bind_eq_some_iff.mp H
          obtain ⟨⟨t156, t157, t158, t159⟩, A340, H⟩ := H
          replace H : (if t159 = 0 then (rexp27.l0 D kj14 t152 a2 l0_0 l0_1 a0_2 a0_3 a0_4 t156 t157 t158) else (some (0, (⟨#[]⟩ : ByteArray), 0, 0, t159))) = some (r1, r2, r3, r4, r5) := H
          have A34 := Aside0.mk A340
          clear A340
          by_cases c35 : t159 = 0
          ·rw [if_pos c35] at H
           have c35b0 : (t159 == 0) = true := beq_iff_eq.mpr c35
           have c35b1 : (t159 != 0) = false := bne_eq_false_iff_eq.mpr c35
           clear c35
           have H' := Aside0.mk H
           clear H
           have hnb36 := NB138_139.out
           have hnc36 := NB139_138.out
           have hnb37 := NB138_145.out
           have hnc37 := NB145_138.out
           have hcz38_0 : wc.cell? ⟨gb138, 0, none⟩ = some (.slice A0_0 l0_0.length c0_0) := (blk_cell BK138.out 0).trans rfl
           have hcz38_1 : wc.cell? ⟨gb138, 1, none⟩ = some (.slice A0_1 l0_1.length c0_1) := (blk_cell BK138.out 1).trans rfl
           have hcz38_2 : wc.cell? ⟨gb138, 2, none⟩ = some (.int .i64 a0_2) := (blk_cell BK138.out 2).trans rfl
           have hcz38_3 : wc.cell? ⟨gb138, 3, none⟩ = some (.string a0_3) := (blk_cell BK138.out 3).trans rfl
           have hcz38_4 : wc.cell? ⟨gb138, 4, none⟩ = some (.int .i64 a0_4) := (blk_cell BK138.out 4).trans rfl
           have hfz38_0 := blk_frozen BK138.out 0
           have hfz38_1 := blk_frozen BK138.out 1
           have hfz38_2 := blk_frozen BK138.out 2
           have hfz38_3 := blk_frozen BK138.out 3
           have hfz38_4 := blk_frozen BK138.out 4
           try go_wp2_with (first | ((with_reducible refine gate_callee (f := 36) rfl ?_); refine goesL_ (some 56) rfl rfl Try.func36 (by kernel_rfl) rfl #[.agg #[.slice A0_0 l0_0.length c0_0, .slice A0_1 l0_1.length c0_1, .int .i64 a0_2, .string a0_3, .int .i64 a0_4], .int .i64 (wrap64 (x1_1 + 1)), .int .i64 a2] rfl (by (try simp only [List.map_toArray, List.map_cons, List.map_nil]); first | done | rfl | (simp only [List.length_drop, List.length_take]; rfl)) ?_; (with_reducible refine (HT.out _ _ l0_0 _ _ l0_1 a0_2 a0_3 a0_4 (wrap64 (x1_1 + 1)) a2 t149 t150 t151 t152 t153 _ ?side1 ?side2 ?side3 ?side4 A30.out).mono ?_); (case side1 => repeat (first | exact (Kd.C_below HR0_0.out HB.out)|(with_reducible refine Kd.C_alloc ?_ _)|(with_reducible refine Kd.C_drewN ?_ _)|(with_reducible refine Kd.C_drew ?_))); (case side2 => exact HC0_0.out); (case side3 => repeat (first | exact (Kd.C_below HR0_1.out HB.out)|(with_reducible refine Kd.C_alloc ?_ _)|(with_reducible refine Kd.C_drewN ?_ _)|(with_reducible refine Kd.C_drew ?_))); (case side4 => exact HC0_1.out); rintro e w39 ⟨rfl, hb⟩; refine ⟨_, rfl, ?_⟩; have n0_ := Aside0.mk (blk_below (by (with_reducible repeat(first|apply bN|apply bD)); exact BK138.out) hb); have n1_ := Aside0.mk (blk_below (by (with_reducible repeat(first|apply bN|apply bD)); exact BK139.out) hb); have n2_ := Aside0.mk (blk_below (by (with_reducible repeat(first|apply bN|apply bD)); exact BK145.out) hb); have n3_ := Aside0.mk (below_step (by repeat (first|(with_reducible first | exact HB.out | apply below_alloc | apply pw_below_drewN | apply below_drew1 | refine below_set ?_ GE138.out | refine below_set ?_ GE139.out | refine below_set ?_ GE145.out) | exact HB.out)) hb); clear BK138; clear BK139; clear BK145; clear HB; have BK138 := n0_; have BK139 := n1_; have BK145 := n2_; have HB := n3_; clear n0_ n1_ n2_ n3_; (try clear hb); (try clear hb2); (try clear hk); (try clear hi)) | ((with_reducible refine gate_dst (N := 11) rfl ?_); refine box_event ?hg (N := 11) ?hd (cs := #[.int .i64 0, .string (⟨#[]⟩ : ByteArray), .int .i64 0]) (t := 24) ?hr ?_; (case hd => rfl); (case hg => rfl); (case hr => first | (go_simp; done) | (go_simp; rfl)); intro gb154 hg w40 hbox hb; have n0_ := Aside0.mk (blk_below (by (with_reducible repeat(first|apply bN|apply bD)); exact BK138.out) hb); have n1_ := Aside0.mk (blk_below (by (with_reducible repeat(first|apply bN|apply bD)); exact BK139.out) hb); have n2_ := Aside0.mk (blk_below (by (with_reducible repeat(first|apply bN|apply bD)); exact BK145.out) hb); have n3_ := Aside0.mk (below_step (by repeat (first|(with_reducible first | exact HB.out | apply below_alloc | apply pw_below_drewN | apply below_drew1 | refine below_set ?_ GE138.out | refine below_set ?_ GE139.out | refine below_set ?_ GE145.out) | exact HB.out)) hb); have n4_ := Aside0.mk (hbox); have n5_ := Aside0.mk ((by rw [hg]; exact (below_size (by repeat (first|(with_reducible first | exact HB.out | apply below_alloc | apply pw_below_drewN | apply below_drew1 | refine below_set ?_ GE138.out | refine below_set ?_ GE139.out | refine below_set ?_ GE145.out) | exact HB.out))) : w.heap.size ≤ gb154)); have n6_ := n5_; have n7_ := Aside0.mk ((by rw [hg]; exact Nat.ne_of_lt (blk_lt (by (with_reducible repeat(first|apply bN|apply bD)); exact BK138.out)) : gb138 ≠ gb154)); have n8_ := Aside0.mk n7_.out.symm; have n9_ := Aside0.mk ((by rw [hg]; exact Nat.ne_of_lt (blk_lt (by (with_reducible repeat(first|apply bN|apply bD)); exact BK139.out)) : gb139 ≠ gb154)); have n10_ := Aside0.mk n9_.out.symm; have n11_ := Aside0.mk ((by rw [hg]; exact Nat.ne_of_lt (blk_lt (by (with_reducible repeat(first|apply bN|apply bD)); exact BK145.out)) : gb145 ≠ gb154)); have n12_ := Aside0.mk n11_.out.symm; clear BK138; clear BK139; clear BK145; clear HB; have BK138 := n0_; have BK139 := n1_; have BK145 := n2_; have HB := n3_; have BK154 := n4_; have GW154 := n5_; have GE154 := n6_; have NB138_154 := n7_; have NB154_138 := n8_; have NB139_154 := n9_; have NB154_139 := n10_; have NB145_154 := n11_; have NB154_145 := n12_; clear n0_ n1_ n2_ n3_ n4_ n5_ n6_ n7_ n8_ n9_ n10_ n11_ n12_; clear hb hbox hg; have hnb41 := NB154_138.out; have hnc41 := NB138_154.out; have hnb42 := NB154_139.out; have hnc42 := NB139_154.out; have hnb43 := NB154_145.out; have hnc43 := NB145_154.out; have hcz44_0 : w40.cell? ⟨gb154, 0, none⟩ = some (.int .i64 0) := (blk_cell BK154.out 0).trans rfl; have hcz44_1 : w40.cell? ⟨gb154, 1, none⟩ = some (.string (⟨#[]⟩ : ByteArray)) := (blk_cell BK154.out 1).trans rfl; have hcz44_2 : w40.cell? ⟨gb154, 2, none⟩ = some (.int .i64 0) := (blk_cell BK154.out 2).trans rfl; have hfz44_0 := blk_frozen BK154.out 0; have hfz44_1 := blk_frozen BK154.out 1; have hfz44_2 := blk_frozen BK154.out 2))
           have n0_ : Aside0 ((((w40.setCell ⟨gb154, 0, none⟩ (.int .i64 t149)).setCell ⟨gb154, 1, none⟩ (.string t150)).setCell ⟨gb154, 2, none⟩ (.int .i64 t151)).heap[gb138]? = some (.cells #[.slice A0_0 l0_0.length c0_0, .slice A0_1 l0_1.length c0_1, .int .i64 a0_2, .string a0_3, .int .i64 a0_4] 58 (0, 0))) := ⟨by (with_reducible repeat(first|apply bN|apply bD)); refine blk_far ?_ NB138_154.out _; (with_reducible repeat(first|apply bN|apply bD)); refine blk_far ?_ NB138_154.out _; (with_reducible repeat(first|apply bN|apply bD)); refine blk_far ?_ NB138_154.out _; (with_reducible repeat(first|apply bN|apply bD)); exact BK138.out⟩
           have n1_ : Aside0 ((((w40.setCell ⟨gb154, 0, none⟩ (.int .i64 t149)).setCell ⟨gb154, 1, none⟩ (.string t150)).setCell ⟨gb154, 2, none⟩ (.int .i64 t151)).heap[gb139]? = some (.cells #[.int .i64 x140000_1, .string x140001_1, .int .i64 x140002_1] 24 (0, 0))) := ⟨by (with_reducible repeat(first|apply bN|apply bD)); refine blk_far ?_ NB139_154.out _; (with_reducible repeat(first|apply bN|apply bD)); refine blk_far ?_ NB139_154.out _; (with_reducible repeat(first|apply bN|apply bD)); refine blk_far ?_ NB139_154.out _; (with_reducible repeat(first|apply bN|apply bD)); exact BK139.out⟩
           have n2_ : Aside0 ((((w40.setCell ⟨gb154, 0, none⟩ (.int .i64 t149)).setCell ⟨gb154, 1, none⟩ (.string t150)).setCell ⟨gb154, 2, none⟩ (.int .i64 t151)).heap[gb145]? = some (.cells #[.int .i64 x146000_1, .string x146001_1, .int .i64 x146002_1] 24 (0, 0))) := ⟨by (with_reducible repeat(first|apply bN|apply bD)); refine blk_far ?_ NB145_154.out _; (with_reducible repeat(first|apply bN|apply bD)); refine blk_far ?_ NB145_154.out _; (with_reducible repeat(first|apply bN|apply bD)); refine blk_far ?_ NB145_154.out _; (with_reducible repeat(first|apply bN|apply bD)); exact BK145.out⟩
           have n3_ : Aside0 ((((w40.setCell ⟨gb154, 0, none⟩ (.int .i64 t149)).setCell ⟨gb154, 1, none⟩ (.string t150)).setCell ⟨gb154, 2, none⟩ (.int .i64 t151)).heap[gb154]? = some (.cells #[.int .i64 t149, .string t150, .int .i64 t151] 24 (0, 0))) := ⟨by (with_reducible repeat(first|apply bN|apply bD)); refine blk_put (cs := #[.int .i64 t149, .string t150, .int .i64 0]) ?_ 2 _ rfl; (with_reducible repeat(first|apply bN|apply bD)); refine blk_put (cs := #[.int .i64 t149, .string (⟨#[]⟩ : ByteArray), .int .i64 0]) ?_ 1 _ rfl; (with_reducible repeat(first|apply bN|apply bD)); refine blk_put (cs := #[.int .i64 0, .string (⟨#[]⟩ : ByteArray), .int .i64 0]) ?_ 0 _ rfl; (with_reducible repeat(first|apply bN|apply bD)); exact BK154.out⟩
           have n4_ : Aside0 (Below w.heap.size w (((w40.setCell ⟨gb154, 0, none⟩ (.int .i64 t149)).setCell ⟨gb154, 1, none⟩ (.string t150)).setCell ⟨gb154, 2, none⟩ (.int .i64 t151))) := ⟨by repeat (first|(with_reducible first | exact HB.out | apply below_alloc | apply pw_below_drewN | apply below_drew1 | refine below_set ?_ GE138.out | refine below_set ?_ GE139.out | refine below_set ?_ GE145.out | refine below_set ?_ GE154.out) | exact HB.out)⟩
           (try clear BK138)
           (try clear BK139)
           (try clear BK145)
           (try clear BK154)
           (try clear HB)
           generalize (((w40.setCell ⟨gb154, 0, none⟩ (.int .i64 t149)).setCell ⟨gb154, 1, none⟩ (.string t150)).setCell ⟨gb154, 2, none⟩ (.int .i64 t151)) = w45 at n0_ n1_ n2_ n3_ n4_ ⊢
           have BK138 := n0_
           have BK139 := n1_
           have BK145 := n2_
           have BK154 := n3_
           have HB := n4_
           clear n0_ n1_ n2_ n3_ n4_
           have n0_ := Aside0.mk (blk_drew BK138.out)
           have n1_ := Aside0.mk (blk_drew BK139.out)
           have n2_ := Aside0.mk (blk_drew BK145.out)
           have n3_ := Aside0.mk (blk_drew BK154.out)
           have n4_ := Aside0.mk (below_drew1 HB.out)
           clear BK138
           clear BK139
           clear BK145
           clear BK154
           clear HB
           have BK138 := n0_
           have BK139 := n1_
           have BK145 := n2_
           have BK154 := n3_
           have HB := n4_
           clear n0_ n1_ n2_ n3_ n4_
           have p155 : 0 ≤ (x1_1 : Int) := of_decide_eq_true (by first|(with_reducible assumption) | assumption)
           have q155 : x1_1 < (l0_0.length : Int) := of_decide_eq_true (by first|(with_reducible assumption) | assumption)
           obtain ⟨ad155, e155, hx155_0, hx155_1, hx155_2, hx155_3⟩ := at_T38 HR0_0.out x1_1 p155 q155
           have hw155_3 := hx155_3
           have hw155_2 := hx155_2
           have hw155_1 := hx155_1
           have hw155_0 := hx155_0
           cases e155
           replace hx155_0 := (HB.out.cell (World.block_lt_of_cell? w _ hx155_0)).trans hx155_0
           replace hx155_1 := (HB.out.cell (World.block_lt_of_cell? w _ hx155_1)).trans hx155_1
           replace hx155_2 := (HB.out.cell (World.block_lt_of_cell? w _ hx155_2)).trans hx155_2
           replace hx155_3 := (HB.out.cell (World.block_lt_of_cell? w _ hx155_3)).trans hx155_3
           replace p155 := eq_true p155
           replace q155 := eq_true q155
           refine start_ (n := 15) (S := fun w' => w'.cell? ⟨gb138, 0, none⟩ = some (.slice (some ad155) l0_0.length c0_0) ∧ w'.cell? ⟨gb138, 1, none⟩ = some (.slice A0_1 l0_1.length c0_1) ∧ w'.cell? ⟨gb138, 2, none⟩ = some (.int .i64 a0_2) ∧ w'.cell? ⟨gb138, 3, none⟩ = some (.string a0_3) ∧ w'.cell? ⟨gb138, 4, none⟩ = some (.int .i64 a0_4) ∧ w'.cell? ⟨gb145, 0, none⟩ = some (.int .i64 x146000_1) ∧ w'.cell? ⟨gb145, 1, none⟩ = some (.string x146001_1) ∧ w'.cell? ⟨gb145, 2, none⟩ = some (.int .i64 x146002_1) ∧ w'.cell? ⟨gb154, 0, none⟩ = some (.int .i64 t149) ∧ w'.cell? ⟨gb154, 1, none⟩ = some (.string t150) ∧ w'.cell? ⟨gb154, 2, none⟩ = some (.int .i64 t151) ∧ w'.cell? (ad155.add ((x1_1).toNat * 4)) = some (.int .i64 ((rd_T38 l0_0 x1_1).f0)) ∧ w'.cell? ⟨(ad155.add ((x1_1).toNat * 4)).block, (ad155.add ((x1_1).toNat * 4)).off + 1, none⟩ = some (.string ((rd_T38 l0_0 x1_1).f1)) ∧ w'.cell? ⟨(ad155.add ((x1_1).toNat * 4)).block, (ad155.add ((x1_1).toNat * 4)).off + 2, none⟩ = some (.int .i64 ((rd_T38 l0_0 x1_1).f2)) ∧ w'.cell? ⟨(ad155.add ((x1_1).toNat * 4)).block, (ad155.add ((x1_1).toNat * 4)).off + 3, none⟩ = some (.int .i64 ((rd_T38 l0_0 x1_1).f3))) (ds := []) #[false, false, false, false, false, false, false, false, false, false, false, false, false, false, false] (by kernel_rfl) rfl rfl ⟨(blk_cell BK138.out 0).trans rfl, (blk_cell BK138.out 1).trans rfl, (blk_cell BK138.out 2).trans rfl, (blk_cell BK138.out 3).trans rfl, (blk_cell BK138.out 4).trans rfl, (blk_cell BK145.out 0).trans rfl, (blk_cell BK145.out 1).trans rfl, (blk_cell BK145.out 2).trans rfl, (blk_cell BK154.out 0).trans rfl, (blk_cell BK154.out 1).trans rfl, (blk_cell BK154.out 2).trans rfl, ((HB.out.cell (World.block_lt_of_cell? w _ hw155_0)).trans hw155_0), ((HB.out.cell (World.block_lt_of_cell? w _ hw155_1)).trans hw155_1), ((HB.out.cell (World.block_lt_of_cell? w _ hw155_2)).trans hw155_2), ((HB.out.cell (World.block_lt_of_cell? w _ hw155_3)).trans hw155_3)⟩ (fun hHeld => ?_); refine with_tabW rexp27.tab8 rexp27.bits8 (fun HT_ HW_ => ?_)
           generalize w45.drew = w46 at BK138 BK139 BK145 BK154 HB hx155_0 hx155_1 hx155_2 hx155_3 hHeld ⊢
           refine pure_ (i := 0) (N := some 65) (v := ?_) (a' := ?_) #[true, false, false, false, false, false, false, false, false, false, false, false, false, false, false] rfl rfl (any_of HT_.out (by kernel_rfl)) (fun _ _ _ h => h) (Or.inl ⟨by rfl, ?_⟩) ?_ ?_
           rotate_left
           ·intro w'
            go_simp
            with_reducible rfl
           rotate_left
           ·simp only [Act.put, List.setIfInBounds_toArray, List.set_cons_zero, List.set_cons_succ, i64_w, i32_w]
            rfl
           refine pure_ (i := 2) (N := some 67) (v := ?_) (a' := ?_) #[true, false, true, false, false, false, false, false, false, false, false, false, false, false, false] rfl rfl (any_of HT_.out (by kernel_rfl)) (fun _ _ _ h => h) (Or.inl ⟨by rfl, ?_⟩) ?_ ?_
           rotate_left
           ·intro w'
            go_simp
            with_reducible rfl
           rotate_left
           ·simp only [Act.put, List.setIfInBounds_toArray, List.set_cons_zero, List.set_cons_succ, i64_w, i32_w]
            rfl
           refine take_ (i := 1) (N := some 66) (v := ?_) (a' := ?_) #[true, true, true, false, false, false, false, false, false, false, false, false, false, false, false] rfl rfl (take_ofW HT_.out HW_.out (by kernel_rfl)) (fun _ _ _ h => h) (Or.inl ⟨by rfl, ?_⟩) hHeld ?_ ?_
           rotate_left
           ·rintro w' ⟨s0, s1, s2, s3, s4, s5, s6, s7, s8, s9, s10, s11, s12, s13, s14⟩
            go_simp
            with_reducible rfl
           rotate_left
           ·simp only [Act.put, List.setIfInBounds_toArray, List.set_cons_zero, List.set_cons_succ, i64_w, i32_w]
            rfl
           refine pure_ (i := 3) (N := some 68) (v := ?_) (a' := ?_) #[true, true, true, true, false, false, false, false, false, false, false, false, false, false, false] rfl rfl (any_of HT_.out (by kernel_rfl)) (fun _ _ _ h => h) (Or.inl ⟨by rfl, ?_⟩) ?_ ?_
           rotate_left
           ·intro w'
            go_simp
            with_reducible rfl
           rotate_left
           ·simp only [Act.put, List.setIfInBounds_toArray, List.set_cons_zero, List.set_cons_succ, i64_w, i32_w]
            rfl
           refine pure_ (i := 4) (N := some 69) (v := ?_) (a' := ?_) #[true, true, true, true, true, false, false, false, false, false, false, false, false, false, false] rfl rfl (any_of HT_.out (by kernel_rfl)) (fun _ _ _ h => h) (Or.inl ⟨by rfl, ?_⟩) ?_ ?_
           rotate_left
           ·intro w'
            go_simp
            with_reducible rfl
           rotate_left
           ·simp only [Act.put, List.setIfInBounds_toArray, List.set_cons_zero, List.set_cons_succ, i64_w, i32_w]
            rfl
           refine take_ (i := 5) (N := some 70) (v := ?_) (a' := ?_) #[true, true, true, true, true, true, false, false, false, false, false, false, false, false, false] rfl rfl (take_ofW HT_.out HW_.out (by kernel_rfl)) (fun _ _ _ h => h) (Or.inl ⟨by rfl, ?_⟩) hHeld ?_ ?_
           rotate_left
           ·rintro w' ⟨s0, s1, s2, s3, s4, s5, s6, s7, s8, s9, s10, s11, s12, s13, s14⟩
            go_simp
            with_reducible rfl
           rotate_left
           ·simp only [Act.put, List.setIfInBounds_toArray, List.set_cons_zero, List.set_cons_succ, i64_w, i32_w]
            rfl
           refine take_ (i := 6) (N := some 71) (v := ?_) (a' := ?_) #[true, true, true, true, true, true, true, false, false, false, false, false, false, false, false] rfl rfl (take_ofW HT_.out HW_.out (by kernel_rfl)) (fun _ _ _ h => h) (Or.inl ⟨by rfl, ?_⟩) hHeld ?_ ?_
           rotate_left
           ·rintro w' ⟨s0, s1, s2, s3, s4, s5, s6, s7, s8, s9, s10, s11, s12, s13, s14⟩
            go_simp
            with_reducible rfl
           rotate_left
           ·simp only [Act.put, List.setIfInBounds_toArray, List.set_cons_zero, List.set_cons_succ, i64_w, i32_w]
            rfl
           refine take_ (i := 7) (N := some 72) (v := ?_) (a' := ?_) #[true, true, true, true, true, true, true, true, false, false, false, false, false, false, false] rfl rfl (take_ofW HT_.out HW_.out (by kernel_rfl)) (fun _ _ _ h => h) (Or.inl ⟨by rfl, ?_⟩) hHeld ?_ ?_
           rotate_left
           ·rintro w' ⟨s0, s1, s2, s3, s4, s5, s6, s7, s8, s9, s10, s11, s12, s13, s14⟩
            go_simp
            with_reducible rfl
           rotate_left
           ·simp only [Act.put, List.setIfInBounds_toArray, List.set_cons_zero, List.set_cons_succ, i64_w, i32_w]
            rfl
           refine join_ (σ := Nat) 2 #[true, true, true, true, true, true, true, true, true, true, true, true, true, false, false] (fun s_ => [(73, .tuple #[.agg #[.int .i64 t156, .string t157, .int .i64 t158], .int .i64 t159]), (14, .pointer (some ⟨s_, 0, none⟩)), (64, .tuple #[.agg #[.int .i64 t156, .string t157, .int .i64 t158], .int .i64 t159]), (74, .agg #[.int .i64 t156, .string t157, .int .i64 t158]), (75, .int .i64 t159)]) (fun s_ w' => (w'.cell? ⟨gb138, 0, none⟩ = some (.slice (some ad155) l0_0.length c0_0) ∧ w'.cell? ⟨gb138, 1, none⟩ = some (.slice A0_1 l0_1.length c0_1) ∧ w'.cell? ⟨gb138, 2, none⟩ = some (.int .i64 a0_2) ∧ w'.cell? ⟨gb138, 3, none⟩ = some (.string a0_3) ∧ w'.cell? ⟨gb138, 4, none⟩ = some (.int .i64 a0_4) ∧ w'.cell? ⟨gb145, 0, none⟩ = some (.int .i64 x146000_1) ∧ w'.cell? ⟨gb145, 1, none⟩ = some (.string x146001_1) ∧ w'.cell? ⟨gb145, 2, none⟩ = some (.int .i64 x146002_1) ∧ w'.cell? ⟨gb154, 0, none⟩ = some (.int .i64 t149) ∧ w'.cell? ⟨gb154, 1, none⟩ = some (.string t150) ∧ w'.cell? ⟨gb154, 2, none⟩ = some (.int .i64 t151) ∧ w'.cell? (ad155.add ((x1_1).toNat * 4)) = some (.int .i64 ((rd_T38 l0_0 x1_1).f0)) ∧ w'.cell? ⟨(ad155.add ((x1_1).toNat * 4)).block, (ad155.add ((x1_1).toNat * 4)).off + 1, none⟩ = some (.string ((rd_T38 l0_0 x1_1).f1)) ∧ w'.cell? ⟨(ad155.add ((x1_1).toNat * 4)).block, (ad155.add ((x1_1).toNat * 4)).off + 2, none⟩ = some (.int .i64 ((rd_T38 l0_0 x1_1).f2)) ∧ w'.cell? ⟨(ad155.add ((x1_1).toNat * 4)).block, (ad155.add ((x1_1).toNat * 4)).off + 3, none⟩ = some (.int .i64 ((rd_T38 l0_0 x1_1).f3))) ∧ (w'.heap[gb138]? = some (.cells #[.slice (some ad155) l0_0.length c0_0, .slice A0_1 l0_1.length c0_1, .int .i64 a0_2, .string a0_3, .int .i64 a0_4] 58 (0, 0))) ∧ (w'.heap[gb139]? = some (.cells #[.int .i64 x140000_1, .string x140001_1, .int .i64 x140002_1] 24 (0, 0))) ∧ (w'.heap[gb145]? = some (.cells #[.int .i64 x146000_1, .string x146001_1, .int .i64 x146002_1] 24 (0, 0))) ∧ (w'.heap[gb154]? = some (.cells #[.int .i64 t149, .string t150, .int .i64 t151] 24 (0, 0))) ∧ (w'.heap[s_]? = some (.cells #[.int .i64 0, .string (⟨#[]⟩ : ByteArray), .int .i64 0] 24 (0, 0))) ∧ (w.heap.size ≤ s_) ∧ (w.heap.size ≤ s_) ∧ (gb138 ≠ s_) ∧ (s_ ≠ gb138) ∧ (gb139 ≠ s_) ∧ (s_ ≠ gb139) ∧ (gb145 ≠ s_) ∧ (s_ ≠ gb145) ∧ (gb154 ≠ s_) ∧ (s_ ≠ gb154) ∧ (Below w.heap.size w w')) ?_ ?_
           rotate_left
           ·intro hCont
            refine two_ (i := 8) (j := 12) (Ni := some 73) (Nj := some 14) #[true, true, true, true, true, true, true, true, true, false, false, false, false, false, false] #[true, true, true, true, true, true, true, true, false, false, false, false, true, false, false] rfl rfl rfl rfl (two_of HT_.out (by kernel_rfl)) (by decide) (by decide) (fun K hK => ?_) (fun K hK => ?_)
            ·skip
             refine goes_ Try.func24 (by kernel_rfl) rfl #[.string ((rd_T38 l0_0 x1_1).f1), .agg #[.int .i64 x146000_1, .string x146001_1, .int .i64 x146002_1], .agg #[.int .i64 t149, .string t150, .int .i64 t151]] (by rfl) rfl rfl (by (try simp only [List.map_toArray, List.map_cons, List.map_nil]); first | done | rfl | (simp only [List.length_drop, List.length_take]; rfl)) ?_
             with_reducible refine (emulatorref26_Binary.calls kj14 ((rd_T38 l0_0 x1_1).f1) x146000_1 x146001_1 x146002_1 t149 t150 t151 t156 t157 t158 t159 _ A34.out).mono ?_
             rintro e w47 ⟨rfl, hb⟩
             refine ⟨_, rfl, ?_⟩
             have n0_ := Aside0.mk (blk_below (by (with_reducible repeat(first|apply bN|apply bD)); exact BK138.out) hb)
             have n1_ := Aside0.mk (blk_below (by (with_reducible repeat(first|apply bN|apply bD)); exact BK139.out) hb)
             have n2_ := Aside0.mk (blk_below (by (with_reducible repeat(first|apply bN|apply bD)); exact BK145.out) hb)
             have n3_ := Aside0.mk (blk_below (by (with_reducible repeat(first|apply bN|apply bD)); exact BK154.out) hb)
             have n4_ := Aside0.mk (below_step (by repeat (first|(with_reducible first | exact HB.out | apply below_alloc | apply pw_below_drewN | apply below_drew1 | refine below_set ?_ GE138.out | refine below_set ?_ GE139.out | refine below_set ?_ GE145.out | refine below_set ?_ GE154.out) | exact HB.out)) hb)
             clear BK138
             clear BK139
             clear BK145
             clear BK154
             clear HB
             have BK138 := n0_
             have BK139 := n1_
             have BK145 := n2_
             have BK154 := n3_
             have HB := n4_
             clear n0_ n1_ n2_ n3_ n4_
             (try clear hb)
             (try clear hb2)
             (try clear hk)
             (try clear hi)
             refine hK.out _ _ ⟨(blk_cell BK138.out 0).trans rfl, (blk_cell BK138.out 1).trans rfl, (blk_cell BK138.out 2).trans rfl, (blk_cell BK138.out 3).trans rfl, (blk_cell BK138.out 4).trans rfl, (blk_cell BK145.out 0).trans rfl, (blk_cell BK145.out 1).trans rfl, (blk_cell BK145.out 2).trans rfl, (blk_cell BK154.out 0).trans rfl, (blk_cell BK154.out 1).trans rfl, (blk_cell BK154.out 2).trans rfl, ((HB.out.cell (World.block_lt_of_cell? w _ hw155_0)).trans hw155_0), ((HB.out.cell (World.block_lt_of_cell? w _ hw155_1)).trans hw155_1), ((HB.out.cell (World.block_lt_of_cell? w _ hw155_2)).trans hw155_2), ((HB.out.cell (World.block_lt_of_cell? w _ hw155_3)).trans hw155_3)⟩ (fun hHeld => ?_)
             clear hK K
             refine norm_ (a' := ?_) ?_ ?_
             rotate_left
             ·show Act.put _ (some 73) _ = _
              simp only [Act.put, List.setIfInBounds_toArray, List.set_cons_zero, List.set_cons_succ, i64_w, i32_w]
              rfl
             refine pure_ (i := 9) (N := some 64) (v := ?_) (a' := ?_) #[true, true, true, true, true, true, true, true, true, true, false, false, false, false, false] rfl rfl (any_of HT_.out (by kernel_rfl)) (fun _ _ _ h => h) (Or.inl ⟨by rfl, ?_⟩) ?_ ?_
             rotate_left
             ·intro w'
              go_simp
              with_reducible rfl
             rotate_left
             ·simp only [Act.put, List.setIfInBounds_toArray, List.set_cons_zero, List.set_cons_succ, i64_w, i32_w]
              rfl
             refine pure_ (i := 10) (N := some 74) (v := ?_) (a' := ?_) #[true, true, true, true, true, true, true, true, true, true, true, false, false, false, false] rfl rfl (any_of HT_.out (by kernel_rfl)) (fun _ _ _ h => h) (Or.inl ⟨by rfl, ?_⟩) ?_ ?_
             rotate_left
             ·intro w'
              go_simp
              with_reducible rfl
             rotate_left
             ·simp only [Act.put, List.setIfInBounds_toArray, List.set_cons_zero, List.set_cons_succ, i64_w, i32_w]
              rfl
             refine pure_ (i := 11) (N := some 75) (v := ?_) (a' := ?_) #[true, true, true, true, true, true, true, true, true, true, true, true, false, false, false] rfl rfl (any_of HT_.out (by kernel_rfl)) (fun _ _ _ h => h) (Or.inl ⟨by rfl, ?_⟩) ?_ ?_
             rotate_left
             ·intro w'
              go_simp
              with_reducible rfl
             rotate_left
             ·simp only [Act.put, List.setIfInBounds_toArray, List.set_cons_zero, List.set_cons_succ, i64_w, i32_w]
              rfl
             refine one_ (i := 12) (N := some 14) #[true, true, true, true, true, true, true, true, true, true, true, true, true, false, false] rfl rfl (one_of HT_.out (by kernel_rfl)) (by decide) (fun K hK => ?_)
             refine box_step ?hg (N := 14) ?hd (cs := #[.int .i64 0, .string (⟨#[]⟩ : ByteArray), .int .i64 0]) (t := 24) ?hr ?_; (case hd => rfl); (case hg => rfl); (case hr => first | (go_simp; done) | (go_simp; rfl))
             intro gb160 hg w48 hbox hb
             have n0_ := Aside0.mk (blk_below (by (with_reducible repeat(first|apply bN|apply bD)); exact BK138.out) hb)
             have n1_ := Aside0.mk (blk_below (by (with_reducible repeat(first|apply bN|apply bD)); exact BK139.out) hb)
             have n2_ := Aside0.mk (blk_below (by (with_reducible repeat(first|apply bN|apply bD)); exact BK145.out) hb)
             have n3_ := Aside0.mk (blk_below (by (with_reducible repeat(first|apply bN|apply bD)); exact BK154.out) hb)
             have n4_ := Aside0.mk (below_step (by repeat (first|(with_reducible first | exact HB.out | apply below_alloc | apply pw_below_drewN | apply below_drew1 | refine below_set ?_ GE138.out | refine below_set ?_ GE139.out | refine below_set ?_ GE145.out | refine below_set ?_ GE154.out) | exact HB.out)) hb)
             have n5_ := Aside0.mk (hbox)
             have n6_ := Aside0.mk ((by rw [hg]; exact (below_size (by repeat (first|(with_reducible first | exact HB.out | apply below_alloc | apply pw_below_drewN | apply below_drew1 | refine below_set ?_ GE138.out | refine below_set ?_ GE139.out | refine below_set ?_ GE145.out | refine below_set ?_ GE154.out) | exact HB.out))) : w.heap.size ≤ gb160))
             have n7_ := Aside0.mk ((by rw [hg]; exact (below_size (by repeat (first|(with_reducible first | exact HB.out | apply below_alloc | apply pw_below_drewN | apply below_drew1 | refine below_set ?_ GE138.out | refine below_set ?_ GE139.out | refine below_set ?_ GE145.out | refine below_set ?_ GE154.out) | exact HB.out))) : w.heap.size ≤ gb160))
             have n8_ := Aside0.mk ((by rw [hg]; exact Nat.ne_of_lt (blk_lt (by (with_reducible repeat(first|apply bN|apply bD)); exact BK138.out)) : gb138 ≠ gb160))
             have n9_ := Aside0.mk ((by rw [hg]; exact Nat.ne_of_gt (blk_lt (by (with_reducible repeat(first|apply bN|apply bD)); exact BK138.out)) : gb160 ≠ gb138))
             have n10_ := Aside0.mk ((by rw [hg]; exact Nat.ne_of_lt (blk_lt (by (with_reducible repeat(first|apply bN|apply bD)); exact BK139.out)) : gb139 ≠ gb160))
             have n11_ := Aside0.mk ((by rw [hg]; exact Nat.ne_of_gt (blk_lt (by (with_reducible repeat(first|apply bN|apply bD)); exact BK139.out)) : gb160 ≠ gb139))
             have n12_ := Aside0.mk ((by rw [hg]; exact Nat.ne_of_lt (blk_lt (by (with_reducible repeat(first|apply bN|apply bD)); exact BK145.out)) : gb145 ≠ gb160))
             have n13_ := Aside0.mk ((by rw [hg]; exact Nat.ne_of_gt (blk_lt (by (with_reducible repeat(first|apply bN|apply bD)); exact BK145.out)) : gb160 ≠ gb145))
             have n14_ := Aside0.mk ((by rw [hg]; exact Nat.ne_of_lt (blk_lt (by (with_reducible repeat(first|apply bN|apply bD)); exact BK154.out)) : gb154 ≠ gb160))
             have n15_ := Aside0.mk ((by rw [hg]; exact Nat.ne_of_gt (blk_lt (by (with_reducible repeat(first|apply bN|apply bD)); exact BK154.out)) : gb160 ≠ gb154))
             clear BK138
             clear BK139
             clear BK145
             clear BK154
             clear HB
             have BK138 := n0_
             have BK139 := n1_
             have BK145 := n2_
             have BK154 := n3_
             have HB := n4_
             have BK160 := n5_
             have GW160 := n6_
             have GE160 := n7_
             have NB138_160 := n8_
             have NB160_138 := n9_
             have NB139_160 := n10_
             have NB160_139 := n11_
             have NB145_160 := n12_
             have NB160_145 := n13_
             have NB154_160 := n14_
             have NB160_154 := n15_
             clear n0_ n1_ n2_ n3_ n4_ n5_ n6_ n7_ n8_ n9_ n10_ n11_ n12_ n13_ n14_ n15_
             clear hb hbox hg
             refine hK.out _ _ ⟨(blk_cell BK138.out 0).trans rfl, (blk_cell BK138.out 1).trans rfl, (blk_cell BK138.out 2).trans rfl, (blk_cell BK138.out 3).trans rfl, (blk_cell BK138.out 4).trans rfl, (blk_cell BK145.out 0).trans rfl, (blk_cell BK145.out 1).trans rfl, (blk_cell BK145.out 2).trans rfl, (blk_cell BK154.out 0).trans rfl, (blk_cell BK154.out 1).trans rfl, (blk_cell BK154.out 2).trans rfl, ((HB.out.cell (World.block_lt_of_cell? w _ hw155_0)).trans hw155_0), ((HB.out.cell (World.block_lt_of_cell? w _ hw155_1)).trans hw155_1), ((HB.out.cell (World.block_lt_of_cell? w _ hw155_2)).trans hw155_2), ((HB.out.cell (World.block_lt_of_cell? w _ hw155_3)).trans hw155_3)⟩ (fun hHeld => ?_)
             clear hK K
             refine norm_ (a' := ?_) ?_ ?_
             rotate_left
             ·show Act.put _ (some 14) _ = _
              simp only [Act.put, List.setIfInBounds_toArray, List.set_cons_zero, List.set_cons_succ, i64_w, i32_w]
              rfl
             exact norm_ (by simp only [putAll, Act.put, List.setIfInBounds_toArray, List.set_cons_zero, List.set_cons_succ]) (hCont (gb160) _ ⟨hHeld, (by (with_reducible repeat(first|apply bN|apply bD)); exact BK138.out), (by (with_reducible repeat(first|apply bN|apply bD)); exact BK139.out), (by (with_reducible repeat(first|apply bN|apply bD)); exact BK145.out), (by (with_reducible repeat(first|apply bN|apply bD)); exact BK154.out), (by (with_reducible repeat(first|apply bN|apply bD)); exact BK160.out), GW160.out, GE160.out, NB138_160.out, NB160_138.out, NB139_160.out, NB160_139.out, NB145_160.out, NB160_145.out, NB154_160.out, NB160_154.out, (by repeat (first|(with_reducible first | exact HB.out | apply below_alloc | apply pw_below_drewN | apply below_drew1 | refine below_set ?_ GE138.out | refine below_set ?_ GE139.out | refine below_set ?_ GE145.out | refine below_set ?_ GE154.out | refine below_set ?_ GE160.out) | exact HB.out))⟩)
            ·skip
             refine box_step ?hg (N := 14) ?hd (cs := #[.int .i64 0, .string (⟨#[]⟩ : ByteArray), .int .i64 0]) (t := 24) ?hr ?_; (case hd => rfl); (case hg => rfl); (case hr => first | (go_simp; done) | (go_simp; rfl))
             intro gb160 hg w47 hbox hb
             have n0_ := Aside0.mk (blk_below (by (with_reducible repeat(first|apply bN|apply bD)); exact BK138.out) hb)
             have n1_ := Aside0.mk (blk_below (by (with_reducible repeat(first|apply bN|apply bD)); exact BK139.out) hb)
             have n2_ := Aside0.mk (blk_below (by (with_reducible repeat(first|apply bN|apply bD)); exact BK145.out) hb)
             have n3_ := Aside0.mk (blk_below (by (with_reducible repeat(first|apply bN|apply bD)); exact BK154.out) hb)
             have n4_ := Aside0.mk (below_step (by repeat (first|(with_reducible first | exact HB.out | apply below_alloc | apply pw_below_drewN | apply below_drew1 | refine below_set ?_ GE138.out | refine below_set ?_ GE139.out | refine below_set ?_ GE145.out | refine below_set ?_ GE154.out) | exact HB.out)) hb)
             have n5_ := Aside0.mk (hbox)
             have n6_ := Aside0.mk ((by rw [hg]; exact (below_size (by repeat (first|(with_reducible first | exact HB.out | apply below_alloc | apply pw_below_drewN | apply below_drew1 | refine below_set ?_ GE138.out | refine below_set ?_ GE139.out | refine below_set ?_ GE145.out | refine below_set ?_ GE154.out) | exact HB.out))) : w.heap.size ≤ gb160))
             have n7_ := Aside0.mk ((by rw [hg]; exact (below_size (by repeat (first|(with_reducible first | exact HB.out | apply below_alloc | apply pw_below_drewN | apply below_drew1 | refine below_set ?_ GE138.out | refine below_set ?_ GE139.out | refine below_set ?_ GE145.out | refine below_set ?_ GE154.out) | exact HB.out))) : w.heap.size ≤ gb160))
             have n8_ := Aside0.mk ((by rw [hg]; exact Nat.ne_of_lt (blk_lt (by (with_reducible repeat(first|apply bN|apply bD)); exact BK138.out)) : gb138 ≠ gb160))
             have n9_ := Aside0.mk ((by rw [hg]; exact Nat.ne_of_gt (blk_lt (by (with_reducible repeat(first|apply bN|apply bD)); exact BK138.out)) : gb160 ≠ gb138))
             have n10_ := Aside0.mk ((by rw [hg]; exact Nat.ne_of_lt (blk_lt (by (with_reducible repeat(first|apply bN|apply bD)); exact BK139.out)) : gb139 ≠ gb160))
             have n11_ := Aside0.mk ((by rw [hg]; exact Nat.ne_of_gt (blk_lt (by (with_reducible repeat(first|apply bN|apply bD)); exact BK139.out)) : gb160 ≠ gb139))
             have n12_ := Aside0.mk ((by rw [hg]; exact Nat.ne_of_lt (blk_lt (by (with_reducible repeat(first|apply bN|apply bD)); exact BK145.out)) : gb145 ≠ gb160))
             have n13_ := Aside0.mk ((by rw [hg]; exact Nat.ne_of_gt (blk_lt (by (with_reducible repeat(first|apply bN|apply bD)); exact BK145.out)) : gb160 ≠ gb145))
             have n14_ := Aside0.mk ((by rw [hg]; exact Nat.ne_of_lt (blk_lt (by (with_reducible repeat(first|apply bN|apply bD)); exact BK154.out)) : gb154 ≠ gb160))
             have n15_ := Aside0.mk ((by rw [hg]; exact Nat.ne_of_gt (blk_lt (by (with_reducible repeat(first|apply bN|apply bD)); exact BK154.out)) : gb160 ≠ gb154))
             clear BK138
             clear BK139
             clear BK145
             clear BK154
             clear HB
             have BK138 := n0_
             have BK139 := n1_
             have BK145 := n2_
             have BK154 := n3_
             have HB := n4_
             have BK160 := n5_
             have GW160 := n6_
             have GE160 := n7_
             have NB138_160 := n8_
             have NB160_138 := n9_
             have NB139_160 := n10_
             have NB160_139 := n11_
             have NB145_160 := n12_
             have NB160_145 := n13_
             have NB154_160 := n14_
             have NB160_154 := n15_
             clear n0_ n1_ n2_ n3_ n4_ n5_ n6_ n7_ n8_ n9_ n10_ n11_ n12_ n13_ n14_ n15_
             clear hb hbox hg
             refine hK.out _ _ ⟨(blk_cell BK138.out 0).trans rfl, (blk_cell BK138.out 1).trans rfl, (blk_cell BK138.out 2).trans rfl, (blk_cell BK138.out 3).trans rfl, (blk_cell BK138.out 4).trans rfl, (blk_cell BK145.out 0).trans rfl, (blk_cell BK145.out 1).trans rfl, (blk_cell BK145.out 2).trans rfl, (blk_cell BK154.out 0).trans rfl, (blk_cell BK154.out 1).trans rfl, (blk_cell BK154.out 2).trans rfl, ((HB.out.cell (World.block_lt_of_cell? w _ hw155_0)).trans hw155_0), ((HB.out.cell (World.block_lt_of_cell? w _ hw155_1)).trans hw155_1), ((HB.out.cell (World.block_lt_of_cell? w _ hw155_2)).trans hw155_2), ((HB.out.cell (World.block_lt_of_cell? w _ hw155_3)).trans hw155_3)⟩ (fun hHeld => ?_)
             clear hK K
             refine norm_ (a' := ?_) ?_ ?_
             rotate_left
             ·show Act.put _ (some 14) _ = _
              simp only [Act.put, List.setIfInBounds_toArray, List.set_cons_zero, List.set_cons_succ, i64_w, i32_w]
              rfl
             refine one_ (i := 8) (N := some 73) #[true, true, true, true, true, true, true, true, true, false, false, false, true, false, false] rfl rfl (one_of HT_.out (by kernel_rfl)) (by decide) (fun K hK => ?_)
             refine goes_ Try.func24 (by kernel_rfl) rfl #[.string ((rd_T38 l0_0 x1_1).f1), .agg #[.int .i64 x146000_1, .string x146001_1, .int .i64 x146002_1], .agg #[.int .i64 t149, .string t150, .int .i64 t151]] (by rfl) rfl rfl (by (try simp only [List.map_toArray, List.map_cons, List.map_nil]); first | done | rfl | (simp only [List.length_drop, List.length_take]; rfl)) ?_
             with_reducible refine (emulatorref26_Binary.calls kj14 ((rd_T38 l0_0 x1_1).f1) x146000_1 x146001_1 x146002_1 t149 t150 t151 t156 t157 t158 t159 _ A34.out).mono ?_
             rintro e w48 ⟨rfl, hb⟩
             refine ⟨_, rfl, ?_⟩
             have n0_ := Aside0.mk (blk_below (by (with_reducible repeat(first|apply bN|apply bD)); exact BK138.out) hb)
             have n1_ := Aside0.mk (blk_below (by (with_reducible repeat(first|apply bN|apply bD)); exact BK139.out) hb)
             have n2_ := Aside0.mk (blk_below (by (with_reducible repeat(first|apply bN|apply bD)); exact BK145.out) hb)
             have n3_ := Aside0.mk (blk_below (by (with_reducible repeat(first|apply bN|apply bD)); exact BK154.out) hb)
             have n4_ := Aside0.mk (blk_below (by (with_reducible repeat(first|apply bN|apply bD)); exact BK160.out) hb)
             have n5_ := Aside0.mk (below_step (by repeat (first|(with_reducible first | exact HB.out | apply below_alloc | apply pw_below_drewN | apply below_drew1 | refine below_set ?_ GE138.out | refine below_set ?_ GE139.out | refine below_set ?_ GE145.out | refine below_set ?_ GE154.out | refine below_set ?_ GE160.out) | exact HB.out)) hb)
             clear BK138
             clear BK139
             clear BK145
             clear BK154
             clear BK160
             clear HB
             have BK138 := n0_
             have BK139 := n1_
             have BK145 := n2_
             have BK154 := n3_
             have BK160 := n4_
             have HB := n5_
             clear n0_ n1_ n2_ n3_ n4_ n5_
             (try clear hb)
             (try clear hb2)
             (try clear hk)
             (try clear hi)
             refine hK.out _ _ ⟨(blk_cell BK138.out 0).trans rfl, (blk_cell BK138.out 1).trans rfl, (blk_cell BK138.out 2).trans rfl, (blk_cell BK138.out 3).trans rfl, (blk_cell BK138.out 4).trans rfl, (blk_cell BK145.out 0).trans rfl, (blk_cell BK145.out 1).trans rfl, (blk_cell BK145.out 2).trans rfl, (blk_cell BK154.out 0).trans rfl, (blk_cell BK154.out 1).trans rfl, (blk_cell BK154.out 2).trans rfl, ((HB.out.cell (World.block_lt_of_cell? w _ hw155_0)).trans hw155_0), ((HB.out.cell (World.block_lt_of_cell? w _ hw155_1)).trans hw155_1), ((HB.out.cell (World.block_lt_of_cell? w _ hw155_2)).trans hw155_2), ((HB.out.cell (World.block_lt_of_cell? w _ hw155_3)).trans hw155_3)⟩ (fun hHeld => ?_)
             clear hK K
             refine norm_ (a' := ?_) ?_ ?_
             rotate_left
             ·show Act.put _ (some 73) _ = _
              simp only [Act.put, List.setIfInBounds_toArray, List.set_cons_zero, List.set_cons_succ, i64_w, i32_w]
              rfl
             refine pure_ (i := 9) (N := some 64) (v := ?_) (a' := ?_) #[true, true, true, true, true, true, true, true, true, true, false, false, true, false, false] rfl rfl (any_of HT_.out (by kernel_rfl)) (fun _ _ _ h => h) (Or.inl ⟨by rfl, ?_⟩) ?_ ?_
             rotate_left
             ·intro w'
              go_simp
              with_reducible rfl
             rotate_left
             ·simp only [Act.put, List.setIfInBounds_toArray, List.set_cons_zero, List.set_cons_succ, i64_w, i32_w]
              rfl
             refine pure_ (i := 10) (N := some 74) (v := ?_) (a' := ?_) #[true, true, true, true, true, true, true, true, true, true, true, false, true, false, false] rfl rfl (any_of HT_.out (by kernel_rfl)) (fun _ _ _ h => h) (Or.inl ⟨by rfl, ?_⟩) ?_ ?_
             rotate_left
             ·intro w'
              go_simp
              with_reducible rfl
             rotate_left
             ·simp only [Act.put, List.setIfInBounds_toArray, List.set_cons_zero, List.set_cons_succ, i64_w, i32_w]
              rfl
             refine pure_ (i := 11) (N := some 75) (v := ?_) (a' := ?_) #[true, true, true, true, true, true, true, true, true, true, true, true, true, false, false] rfl rfl (any_of HT_.out (by kernel_rfl)) (fun _ _ _ h => h) (Or.inl ⟨by rfl, ?_⟩) ?_ ?_
             rotate_left
             ·intro w'
              go_simp
              with_reducible rfl
             rotate_left
             ·simp only [Act.put, List.setIfInBounds_toArray, List.set_cons_zero, List.set_cons_succ, i64_w, i32_w]
              rfl
             exact norm_ (by simp only [putAll, Act.put, List.setIfInBounds_toArray, List.set_cons_zero, List.set_cons_succ]) (hCont (gb160) _ ⟨hHeld, (by (with_reducible repeat(first|apply bN|apply bD)); exact BK138.out), (by (with_reducible repeat(first|apply bN|apply bD)); exact BK139.out), (by (with_reducible repeat(first|apply bN|apply bD)); exact BK145.out), (by (with_reducible repeat(first|apply bN|apply bD)); exact BK154.out), (by (with_reducible repeat(first|apply bN|apply bD)); exact BK160.out), GW160.out, GE160.out, NB138_160.out, NB160_138.out, NB139_160.out, NB160_139.out, NB145_160.out, NB160_145.out, NB154_160.out, NB160_154.out, (by repeat (first|(with_reducible first | exact HB.out | apply below_alloc | apply pw_below_drewN | apply below_drew1 | refine below_set ?_ GE138.out | refine below_set ?_ GE139.out | refine below_set ?_ GE145.out | refine below_set ?_ GE154.out | refine below_set ?_ GE160.out) | exact HB.out))⟩)
           rintro gb160 w49 ⟨hS_, h0_, h1_, h2_, h3_, h4_, h5_, h6_, h7_, h8_, h9_, h10_, h11_, h12_, h13_, h14_, h15_⟩
           have n0_ : Aside0 (w49.heap[gb138]? = some (.cells #[.slice (some ad155) l0_0.length c0_0, .slice A0_1 l0_1.length c0_1, .int .i64 a0_2, .string a0_3, .int .i64 a0_4] 58 (0, 0))) := ⟨h0_⟩
           have n1_ : Aside0 (w49.heap[gb139]? = some (.cells #[.int .i64 x140000_1, .string x140001_1, .int .i64 x140002_1] 24 (0, 0))) := ⟨h1_⟩
           have n2_ : Aside0 (w49.heap[gb145]? = some (.cells #[.int .i64 x146000_1, .string x146001_1, .int .i64 x146002_1] 24 (0, 0))) := ⟨h2_⟩
           have n3_ : Aside0 (w49.heap[gb154]? = some (.cells #[.int .i64 t149, .string t150, .int .i64 t151] 24 (0, 0))) := ⟨h3_⟩
           have n4_ : Aside0 (w49.heap[gb160]? = some (.cells #[.int .i64 0, .string (⟨#[]⟩ : ByteArray), .int .i64 0] 24 (0, 0))) := ⟨h4_⟩
           have n5_ : Aside0 (w.heap.size ≤ gb160) := ⟨h5_⟩
           have n6_ : Aside0 (w.heap.size ≤ gb160) := ⟨h6_⟩
           have n7_ : Aside0 (gb138 ≠ gb160) := ⟨h7_⟩
           have n8_ : Aside0 (gb160 ≠ gb138) := ⟨h8_⟩
           have n9_ : Aside0 (gb139 ≠ gb160) := ⟨h9_⟩
           have n10_ : Aside0 (gb160 ≠ gb139) := ⟨h10_⟩
           have n11_ : Aside0 (gb145 ≠ gb160) := ⟨h11_⟩
           have n12_ : Aside0 (gb160 ≠ gb145) := ⟨h12_⟩
           have n13_ : Aside0 (gb154 ≠ gb160) := ⟨h13_⟩
           have n14_ : Aside0 (gb160 ≠ gb154) := ⟨h14_⟩
           have n15_ : Aside0 (Below w.heap.size w w49) := ⟨h15_⟩
           clear BK138
           clear BK139
           clear BK145
           clear BK154
           clear HB
           clear h0_ h1_ h2_ h3_ h4_ h5_ h6_ h7_ h8_ h9_ h10_ h11_ h12_ h13_ h14_ h15_
           have BK138 := n0_
           have BK139 := n1_
           have BK145 := n2_
           have BK154 := n3_
           have BK160 := n4_
           have GW160 := n5_
           have GE160 := n6_
           have NB138_160 := n7_
           have NB160_138 := n8_
           have NB139_160 := n9_
           have NB160_139 := n10_
           have NB145_160 := n11_
           have NB160_145 := n12_
           have NB154_160 := n13_
           have NB160_154 := n14_
           have HB := n15_
           clear n0_ n1_ n2_ n3_ n4_ n5_ n6_ n7_ n8_ n9_ n10_ n11_ n12_ n13_ n14_ n15_
           have hHeld : w49.cell? ⟨gb138, 0, none⟩ = some (.slice (some ad155) l0_0.length c0_0) ∧ w49.cell? ⟨gb138, 1, none⟩ = some (.slice A0_1 l0_1.length c0_1) ∧ w49.cell? ⟨gb138, 2, none⟩ = some (.int .i64 a0_2) ∧ w49.cell? ⟨gb138, 3, none⟩ = some (.string a0_3) ∧ w49.cell? ⟨gb138, 4, none⟩ = some (.int .i64 a0_4) ∧ w49.cell? ⟨gb145, 0, none⟩ = some (.int .i64 x146000_1) ∧ w49.cell? ⟨gb145, 1, none⟩ = some (.string x146001_1) ∧ w49.cell? ⟨gb145, 2, none⟩ = some (.int .i64 x146002_1) ∧ w49.cell? ⟨gb154, 0, none⟩ = some (.int .i64 t149) ∧ w49.cell? ⟨gb154, 1, none⟩ = some (.string t150) ∧ w49.cell? ⟨gb154, 2, none⟩ = some (.int .i64 t151) ∧ w49.cell? (ad155.add ((x1_1).toNat * 4)) = some (.int .i64 ((rd_T38 l0_0 x1_1).f0)) ∧ w49.cell? ⟨(ad155.add ((x1_1).toNat * 4)).block, (ad155.add ((x1_1).toNat * 4)).off + 1, none⟩ = some (.string ((rd_T38 l0_0 x1_1).f1)) ∧ w49.cell? ⟨(ad155.add ((x1_1).toNat * 4)).block, (ad155.add ((x1_1).toNat * 4)).off + 2, none⟩ = some (.int .i64 ((rd_T38 l0_0 x1_1).f2)) ∧ w49.cell? ⟨(ad155.add ((x1_1).toNat * 4)).block, (ad155.add ((x1_1).toNat * 4)).off + 3, none⟩ = some (.int .i64 ((rd_T38 l0_0 x1_1).f3)) := hS_
           refine norm_ (a' := ?_) ?_ ?_
           rotate_left
           ·simp only [putAll, Act.put, List.setIfInBounds_toArray, List.set_cons_zero, List.set_cons_succ]
            rfl
           refine one_ (i := 13) (N := none) #[true, true, true, true, true, true, true, true, true, true, true, true, true, true, false] rfl rfl (one_of HT_.out (by kernel_rfl)) (by decide) (fun K hK => ?_)
           have hs50 : w49.cell? ⟨gb160, 0, none⟩ = some (.int .i64 0) := (blk_cell BK160.out 0).trans rfl
           have hfs50 := blk_frozen BK160.out 0
           have hns50_0 := NB138_160.out
           have hns50_1 := NB139_160.out
           have hns50_2 := NB145_160.out
           have hns50_3 := NB154_160.out
           have hms50_0 := NB160_138.out
           have hms50_1 := NB160_139.out
           have hms50_2 := NB160_145.out
           have hms50_3 := NB160_154.out
           have hs51 : w49.cell? ⟨gb160, 1, none⟩ = some (.string (⟨#[]⟩ : ByteArray)) := (blk_cell BK160.out 1).trans rfl
           have hfs51 := blk_frozen BK160.out 1
           have hns51_0 := NB138_160.out
           have hns51_1 := NB139_160.out
           have hns51_2 := NB145_160.out
           have hns51_3 := NB154_160.out
           have hms51_0 := NB160_138.out
           have hms51_1 := NB160_139.out
           have hms51_2 := NB160_145.out
           have hms51_3 := NB160_154.out
           have hs52 : w49.cell? ⟨gb160, 2, none⟩ = some (.int .i64 0) := (blk_cell BK160.out 2).trans rfl
           have hfs52 := blk_frozen BK160.out 2
           have hns52_0 := NB138_160.out
           have hns52_1 := NB139_160.out
           have hns52_2 := NB145_160.out
           have hns52_3 := NB154_160.out
           have hms52_0 := NB160_138.out
           have hms52_1 := NB160_139.out
           have hms52_2 := NB160_145.out
           have hms52_3 := NB160_154.out
           refine skip_ (w1 := ?_) (by rfl) rfl ?_ ?_
           rotate_left
           ·go_simp
            rfl
           refine hK.out _ _ ⟨((cell_far (p := ⟨gb160, _, none⟩) NB138_160.out _).trans (((cell_far (p := ⟨gb160, _, none⟩) NB138_160.out _).trans (((cell_far (p := ⟨gb160, _, none⟩) NB138_160.out _).trans (hHeld.1)))))), ((cell_far (p := ⟨gb160, _, none⟩) NB138_160.out _).trans (((cell_far (p := ⟨gb160, _, none⟩) NB138_160.out _).trans (((cell_far (p := ⟨gb160, _, none⟩) NB138_160.out _).trans (hHeld.2.1)))))), ((cell_far (p := ⟨gb160, _, none⟩) NB138_160.out _).trans (((cell_far (p := ⟨gb160, _, none⟩) NB138_160.out _).trans (((cell_far (p := ⟨gb160, _, none⟩) NB138_160.out _).trans (hHeld.2.2.1)))))), ((cell_far (p := ⟨gb160, _, none⟩) NB138_160.out _).trans (((cell_far (p := ⟨gb160, _, none⟩) NB138_160.out _).trans (((cell_far (p := ⟨gb160, _, none⟩) NB138_160.out _).trans (hHeld.2.2.2.1)))))), ((cell_far (p := ⟨gb160, _, none⟩) NB138_160.out _).trans (((cell_far (p := ⟨gb160, _, none⟩) NB138_160.out _).trans (((cell_far (p := ⟨gb160, _, none⟩) NB138_160.out _).trans (hHeld.2.2.2.2.1)))))), ((cell_far (p := ⟨gb160, _, none⟩) NB145_160.out _).trans (((cell_far (p := ⟨gb160, _, none⟩) NB145_160.out _).trans (((cell_far (p := ⟨gb160, _, none⟩) NB145_160.out _).trans (hHeld.2.2.2.2.2.1)))))), ((cell_far (p := ⟨gb160, _, none⟩) NB145_160.out _).trans (((cell_far (p := ⟨gb160, _, none⟩) NB145_160.out _).trans (((cell_far (p := ⟨gb160, _, none⟩) NB145_160.out _).trans (hHeld.2.2.2.2.2.2.1)))))), ((cell_far (p := ⟨gb160, _, none⟩) NB145_160.out _).trans (((cell_far (p := ⟨gb160, _, none⟩) NB145_160.out _).trans (((cell_far (p := ⟨gb160, _, none⟩) NB145_160.out _).trans (hHeld.2.2.2.2.2.2.2.1)))))), ((cell_far (p := ⟨gb160, _, none⟩) NB154_160.out _).trans (((cell_far (p := ⟨gb160, _, none⟩) NB154_160.out _).trans (((cell_far (p := ⟨gb160, _, none⟩) NB154_160.out _).trans (hHeld.2.2.2.2.2.2.2.2.1)))))), ((cell_far (p := ⟨gb160, _, none⟩) NB154_160.out _).trans (((cell_far (p := ⟨gb160, _, none⟩) NB154_160.out _).trans (((cell_far (p := ⟨gb160, _, none⟩) NB154_160.out _).trans (hHeld.2.2.2.2.2.2.2.2.2.1)))))), ((cell_far (p := ⟨gb160, _, none⟩) NB154_160.out _).trans (((cell_far (p := ⟨gb160, _, none⟩) NB154_160.out _).trans (((cell_far (p := ⟨gb160, _, none⟩) NB154_160.out _).trans (hHeld.2.2.2.2.2.2.2.2.2.2.1)))))), ((cell_far (p := ⟨gb160, _, none⟩) (by first | exact Nat.ne_of_lt (Nat.lt_of_lt_of_le (by have := World.block_lt_of_cell? _ _ hw155_0; first | rwa [add_block] at this | exact this) GW160.out) | (rw [add_block]; exact Nat.ne_of_lt (Nat.lt_of_lt_of_le (by have := World.block_lt_of_cell? _ _ hw155_0; first | rwa [add_block] at this | exact this) GW160.out)) | (show (Addr.add _ _).block ≠ _; rw [add_block]; exact Nat.ne_of_lt (Nat.lt_of_lt_of_le (by have := World.block_lt_of_cell? _ _ hw155_0; first | rwa [add_block] at this | exact this) GW160.out)) | (dsimp only; exact Nat.ne_of_lt (Nat.lt_of_lt_of_le (by have := World.block_lt_of_cell? _ _ hw155_0; first | rwa [add_block] at this | exact this) GW160.out))) _).trans (((cell_far (p := ⟨gb160, _, none⟩) (by first | exact Nat.ne_of_lt (Nat.lt_of_lt_of_le (by have := World.block_lt_of_cell? _ _ hw155_0; first | rwa [add_block] at this | exact this) GW160.out) | (rw [add_block]; exact Nat.ne_of_lt (Nat.lt_of_lt_of_le (by have := World.block_lt_of_cell? _ _ hw155_0; first | rwa [add_block] at this | exact this) GW160.out)) | (show (Addr.add _ _).block ≠ _; rw [add_block]; exact Nat.ne_of_lt (Nat.lt_of_lt_of_le (by have := World.block_lt_of_cell? _ _ hw155_0; first | rwa [add_block] at this | exact this) GW160.out)) | (dsimp only; exact Nat.ne_of_lt (Nat.lt_of_lt_of_le (by have := World.block_lt_of_cell? _ _ hw155_0; first | rwa [add_block] at this | exact this) GW160.out))) _).trans (((cell_far (p := ⟨gb160, _, none⟩) (by first | exact Nat.ne_of_lt (Nat.lt_of_lt_of_le (by have := World.block_lt_of_cell? _ _ hw155_0; first | rwa [add_block] at this | exact this) GW160.out) | (rw [add_block]; exact Nat.ne_of_lt (Nat.lt_of_lt_of_le (by have := World.block_lt_of_cell? _ _ hw155_0; first | rwa [add_block] at this | exact this) GW160.out)) | (show (Addr.add _ _).block ≠ _; rw [add_block]; exact Nat.ne_of_lt (Nat.lt_of_lt_of_le (by have := World.block_lt_of_cell? _ _ hw155_0; first | rwa [add_block] at this | exact this) GW160.out)) | (dsimp only; exact Nat.ne_of_lt (Nat.lt_of_lt_of_le (by have := World.block_lt_of_cell? _ _ hw155_0; first | rwa [add_block] at this | exact this) GW160.out))) _).trans (hHeld.2.2.2.2.2.2.2.2.2.2.2.1)))))), ((cell_far (p := ⟨gb160, _, none⟩) (by first | exact Nat.ne_of_lt (Nat.lt_of_lt_of_le (by have := World.block_lt_of_cell? _ _ hw155_1; first | rwa [add_block] at this | exact this) GW160.out) | (rw [add_block]; exact Nat.ne_of_lt (Nat.lt_of_lt_of_le (by have := World.block_lt_of_cell? _ _ hw155_1; first | rwa [add_block] at this | exact this) GW160.out)) | (show (Addr.add _ _).block ≠ _; rw [add_block]; exact Nat.ne_of_lt (Nat.lt_of_lt_of_le (by have := World.block_lt_of_cell? _ _ hw155_1; first | rwa [add_block] at this | exact this) GW160.out)) | (dsimp only; exact Nat.ne_of_lt (Nat.lt_of_lt_of_le (by have := World.block_lt_of_cell? _ _ hw155_1; first | rwa [add_block] at this | exact this) GW160.out))) _).trans (((cell_far (p := ⟨gb160, _, none⟩) (by first | exact Nat.ne_of_lt (Nat.lt_of_lt_of_le (by have := World.block_lt_of_cell? _ _ hw155_1; first | rwa [add_block] at this | exact this) GW160.out) | (rw [add_block]; exact Nat.ne_of_lt (Nat.lt_of_lt_of_le (by have := World.block_lt_of_cell? _ _ hw155_1; first | rwa [add_block] at this | exact this) GW160.out)) | (show (Addr.add _ _).block ≠ _; rw [add_block]; exact Nat.ne_of_lt (Nat.lt_of_lt_of_le (by have := World.block_lt_of_cell? _ _ hw155_1; first | rwa [add_block] at this | exact this) GW160.out)) | (dsimp only; exact Nat.ne_of_lt (Nat.lt_of_lt_of_le (by have := World.block_lt_of_cell? _ _ hw155_1; first | rwa [add_block] at this | exact this) GW160.out))) _).trans (((cell_far (p := ⟨gb160, _, none⟩) (by first | exact Nat.ne_of_lt (Nat.lt_of_lt_of_le (by have := World.block_lt_of_cell? _ _ hw155_1; first | rwa [add_block] at this | exact this) GW160.out) | (rw [add_block]; exact Nat.ne_of_lt (Nat.lt_of_lt_of_le (by have := World.block_lt_of_cell? _ _ hw155_1; first | rwa [add_block] at this | exact this) GW160.out)) | (show (Addr.add _ _).block ≠ _; rw [add_block]; exact Nat.ne_of_lt (Nat.lt_of_lt_of_le (by have := World.block_lt_of_cell? _ _ hw155_1; first | rwa [add_block] at this | exact this) GW160.out)) | (dsimp only; exact Nat.ne_of_lt (Nat.lt_of_lt_of_le (by have := World.block_lt_of_cell? _ _ hw155_1; first | rwa [add_block] at this | exact this) GW160.out))) _).trans (hHeld.2.2.2.2.2.2.2.2.2.2.2.2.1)))))), ((cell_far (p := ⟨gb160, _, none⟩) (by first | exact Nat.ne_of_lt (Nat.lt_of_lt_of_le (by have := World.block_lt_of_cell? _ _ hw155_2; first | rwa [add_block] at this | exact this) GW160.out) | (rw [add_block]; exact Nat.ne_of_lt (Nat.lt_of_lt_of_le (by have := World.block_lt_of_cell? _ _ hw155_2; first | rwa [add_block] at this | exact this) GW160.out)) | (show (Addr.add _ _).block ≠ _; rw [add_block]; exact Nat.ne_of_lt (Nat.lt_of_lt_of_le (by have := World.block_lt_of_cell? _ _ hw155_2; first | rwa [add_block] at this | exact this) GW160.out)) | (dsimp only; exact Nat.ne_of_lt (Nat.lt_of_lt_of_le (by have := World.block_lt_of_cell? _ _ hw155_2; first | rwa [add_block] at this | exact this) GW160.out))) _).trans (((cell_far (p := ⟨gb160, _, none⟩) (by first | exact Nat.ne_of_lt (Nat.lt_of_lt_of_le (by have := World.block_lt_of_cell? _ _ hw155_2; first | rwa [add_block] at this | exact this) GW160.out) | (rw [add_block]; exact Nat.ne_of_lt (Nat.lt_of_lt_of_le (by have := World.block_lt_of_cell? _ _ hw155_2; first | rwa [add_block] at this | exact this) GW160.out)) | (show (Addr.add _ _).block ≠ _; rw [add_block]; exact Nat.ne_of_lt (Nat.lt_of_lt_of_le (by have := World.block_lt_of_cell? _ _ hw155_2; first | rwa [add_block] at this | exact this) GW160.out)) | (dsimp only; exact Nat.ne_of_lt (Nat.lt_of_lt_of_le (by have := World.block_lt_of_cell? _ _ hw155_2; first | rwa [add_block] at this | exact this) GW160.out))) _).trans (((cell_far (p := ⟨gb160, _, none⟩) (by first | exact Nat.ne_of_lt (Nat.lt_of_lt_of_le (by have := World.block_lt_of_cell? _ _ hw155_2; first | rwa [add_block] at this | exact this) GW160.out) | (rw [add_block]; exact Nat.ne_of_lt (Nat.lt_of_lt_of_le (by have := World.block_lt_of_cell? _ _ hw155_2; first | rwa [add_block] at this | exact this) GW160.out)) | (show (Addr.add _ _).block ≠ _; rw [add_block]; exact Nat.ne_of_lt (Nat.lt_of_lt_of_le (by have := World.block_lt_of_cell? _ _ hw155_2; first | rwa [add_block] at this | exact this) GW160.out)) | (dsimp only; exact Nat.ne_of_lt (Nat.lt_of_lt_of_le (by have := World.block_lt_of_cell? _ _ hw155_2; first | rwa [add_block] at this | exact this) GW160.out))) _).trans (hHeld.2.2.2.2.2.2.2.2.2.2.2.2.2.1)))))), ((cell_far (p := ⟨gb160, _, none⟩) (by first | exact Nat.ne_of_lt (Nat.lt_of_lt_of_le (by have := World.block_lt_of_cell? _ _ hw155_3; first | rwa [add_block] at this | exact this) GW160.out) | (rw [add_block]; exact Nat.ne_of_lt (Nat.lt_of_lt_of_le (by have := World.block_lt_of_cell? _ _ hw155_3; first | rwa [add_block] at this | exact this) GW160.out)) | (show (Addr.add _ _).block ≠ _; rw [add_block]; exact Nat.ne_of_lt (Nat.lt_of_lt_of_le (by have := World.block_lt_of_cell? _ _ hw155_3; first | rwa [add_block] at this | exact this) GW160.out)) | (dsimp only; exact Nat.ne_of_lt (Nat.lt_of_lt_of_le (by have := World.block_lt_of_cell? _ _ hw155_3; first | rwa [add_block] at this | exact this) GW160.out))) _).trans (((cell_far (p := ⟨gb160, _, none⟩) (by first | exact Nat.ne_of_lt (Nat.lt_of_lt_of_le (by have := World.block_lt_of_cell? _ _ hw155_3; first | rwa [add_block] at this | exact this) GW160.out) | (rw [add_block]; exact Nat.ne_of_lt (Nat.lt_of_lt_of_le (by have := World.block_lt_of_cell? _ _ hw155_3; first | rwa [add_block] at this | exact this) GW160.out)) | (show (Addr.add _ _).block ≠ _; rw [add_block]; exact Nat.ne_of_lt (Nat.lt_of_lt_of_le (by have := World.block_lt_of_cell? _ _ hw155_3; first | rwa [add_block] at this | exact this) GW160.out)) | (dsimp only; exact Nat.ne_of_lt (Nat.lt_of_lt_of_le (by have := World.block_lt_of_cell? _ _ hw155_3; first | rwa [add_block] at this | exact this) GW160.out))) _).trans (((cell_far (p := ⟨gb160, _, none⟩) (by first | exact Nat.ne_of_lt (Nat.lt_of_lt_of_le (by have := World.block_lt_of_cell? _ _ hw155_3; first | rwa [add_block] at this | exact this) GW160.out) | (rw [add_block]; exact Nat.ne_of_lt (Nat.lt_of_lt_of_le (by have := World.block_lt_of_cell? _ _ hw155_3; first | rwa [add_block] at this | exact this) GW160.out)) | (show (Addr.add _ _).block ≠ _; rw [add_block]; exact Nat.ne_of_lt (Nat.lt_of_lt_of_le (by have := World.block_lt_of_cell? _ _ hw155_3; first | rwa [add_block] at this | exact this) GW160.out)) | (dsimp only; exact Nat.ne_of_lt (Nat.lt_of_lt_of_le (by have := World.block_lt_of_cell? _ _ hw155_3; first | rwa [add_block] at this | exact this) GW160.out))) _).trans (hHeld.2.2.2.2.2.2.2.2.2.2.2.2.2.2))))))⟩ (fun hHeld => ?_)
           clear hK K
           refine pure_ (i := 14) (N := some 15) (v := ?_) (a' := ?_) #[true, true, true, true, true, true, true, true, true, true, true, true, true, true, true] rfl rfl (any_of HT_.out (by kernel_rfl)) (fun _ _ _ h => h) (Or.inl ⟨by rfl, ?_⟩) ?_ ?_
           rotate_left
           ·intro w'
            go_simp
            with_reducible rfl
           rotate_left
           ·simp only [Act.put, List.setIfInBounds_toArray, List.set_cons_zero, List.set_cons_succ, i64_w, i32_w]
            rfl
           refine done_ (done_of HT_.out (by kernel_rfl)) ?_
           have hnb53 := NB160_138.out
           have hnc53 := NB138_160.out
           have hnb54 := NB160_139.out
           have hnc54 := NB139_160.out
           have hnb55 := NB160_145.out
           have hnc55 := NB145_160.out
           have hnb56 := NB160_154.out
           have hnc56 := NB154_160.out
           have hcz57_0 : w49.cell? ⟨gb160, 0, none⟩ = some (.int .i64 0) := (blk_cell BK160.out 0).trans rfl
           have hcz57_1 : w49.cell? ⟨gb160, 1, none⟩ = some (.string (⟨#[]⟩ : ByteArray)) := (blk_cell BK160.out 1).trans rfl
           have hcz57_2 : w49.cell? ⟨gb160, 2, none⟩ = some (.int .i64 0) := (blk_cell BK160.out 2).trans rfl
           have hfz57_0 := blk_frozen BK160.out 0
           have hfz57_1 := blk_frozen BK160.out 1
           have hfz57_2 := blk_frozen BK160.out 2
           have hnb58 := NB145_139.out
           have hnc58 := NB139_145.out
           have hcz59_0 : w49.cell? ⟨gb145, 0, none⟩ = some (.int .i64 x146000_1) := (blk_cell BK145.out 0).trans rfl
           have hcz59_1 : w49.cell? ⟨gb145, 1, none⟩ = some (.string x146001_1) := (blk_cell BK145.out 1).trans rfl
           have hcz59_2 : w49.cell? ⟨gb145, 2, none⟩ = some (.int .i64 x146002_1) := (blk_cell BK145.out 2).trans rfl
           have hfz59_0 := blk_frozen BK145.out 0
           have hfz59_1 := blk_frozen BK145.out 1
           have hfz59_2 := blk_frozen BK145.out 2
           try go_wp2
           go_roundg kj14
           case measure => have := HK1.out; have := HJ14.out; omega
           case rel => exact ⟨(t152), (x140000_1), (x140001_1), (x140002_1), (t156), (t157), (t158), (by first | rfl | (simp; done) | (simp [*]; done)), H', ⟨by have := HK1.out; have := HJ14.out; omega⟩, ⟨by (with_reducible repeat(first|apply bN|apply bD)); refine blk_far ?_ NB138_145.out _; (with_reducible repeat(first|apply bN|apply bD)); refine blk_far ?_ NB138_145.out _; (with_reducible repeat(first|apply bN|apply bD)); refine blk_far ?_ NB138_145.out _; (with_reducible repeat(first|apply bN|apply bD)); refine blk_far ?_ NB138_160.out _; (with_reducible repeat(first|apply bN|apply bD)); refine blk_far ?_ NB138_160.out _; (with_reducible repeat(first|apply bN|apply bD)); refine blk_far ?_ NB138_160.out _; (with_reducible repeat(first|apply bN|apply bD)); exact BK138.out⟩, ⟨by (with_reducible repeat(first|apply bN|apply bD)); refine blk_far ?_ NB139_145.out _; (with_reducible repeat(first|apply bN|apply bD)); refine blk_far ?_ NB139_145.out _; (with_reducible repeat(first|apply bN|apply bD)); refine blk_far ?_ NB139_145.out _; (with_reducible repeat(first|apply bN|apply bD)); refine blk_far ?_ NB139_160.out _; (with_reducible repeat(first|apply bN|apply bD)); refine blk_far ?_ NB139_160.out _; (with_reducible repeat(first|apply bN|apply bD)); refine blk_far ?_ NB139_160.out _; (with_reducible repeat(first|apply bN|apply bD)); exact BK139.out⟩, ⟨by (with_reducible repeat(first|apply bN|apply bD)); refine blk_put (cs := #[.int .i64 t156, .string t157, .int .i64 x146002_1]) ?_ 2 _ rfl; (with_reducible repeat(first|apply bN|apply bD)); refine blk_put (cs := #[.int .i64 t156, .string x146001_1, .int .i64 x146002_1]) ?_ 1 _ rfl; (with_reducible repeat(first|apply bN|apply bD)); refine blk_put (cs := #[.int .i64 x146000_1, .string x146001_1, .int .i64 x146002_1]) ?_ 0 _ rfl; (with_reducible repeat(first|apply bN|apply bD)); refine blk_far ?_ NB145_160.out _; (with_reducible repeat(first|apply bN|apply bD)); refine blk_far ?_ NB145_160.out _; (with_reducible repeat(first|apply bN|apply bD)); refine blk_far ?_ NB145_160.out _; (with_reducible repeat(first|apply bN|apply bD)); exact BK145.out⟩, ⟨by repeat (first|(with_reducible first | exact HB.out | apply below_alloc | apply pw_below_drewN | apply below_drew1 | refine below_set ?_ GE138.out | refine below_set ?_ GE139.out | refine below_set ?_ GE145.out | refine below_set ?_ GE154.out | refine below_set ?_ GE160.out) | exact HB.out)⟩⟩
          ·rw [if_neg c35] at H
           have c35b0 : (t159 == 0) = false := beq_eq_false_iff_ne.mpr c35
           have c35b1 : (t159 != 0) = true := bne_iff_ne.mpr c35
           simp only [Option.some.injEq, Prod.mk.injEq] at H
           obtain ⟨rfl, rfl, rfl, rfl, rfl⟩ := H
           have hnb60 := NB138_139.out
           have hnc60 := NB139_138.out
           have hnb61 := NB138_145.out
           have hnc61 := NB145_138.out
           have hcz62_0 : wc.cell? ⟨gb138, 0, none⟩ = some (.slice A0_0 l0_0.length c0_0) := (blk_cell BK138.out 0).trans rfl
           have hcz62_1 : wc.cell? ⟨gb138, 1, none⟩ = some (.slice A0_1 l0_1.length c0_1) := (blk_cell BK138.out 1).trans rfl
           have hcz62_2 : wc.cell? ⟨gb138, 2, none⟩ = some (.int .i64 a0_2) := (blk_cell BK138.out 2).trans rfl
           have hcz62_3 : wc.cell? ⟨gb138, 3, none⟩ = some (.string a0_3) := (blk_cell BK138.out 3).trans rfl
           have hcz62_4 : wc.cell? ⟨gb138, 4, none⟩ = some (.int .i64 a0_4) := (blk_cell BK138.out 4).trans rfl
           have hfz62_0 := blk_frozen BK138.out 0
           have hfz62_1 := blk_frozen BK138.out 1
           have hfz62_2 := blk_frozen BK138.out 2
           have hfz62_3 := blk_frozen BK138.out 3
           have hfz62_4 := blk_frozen BK138.out 4
           try go_wp2_with (first | ((with_reducible refine gate_callee (f := 36) rfl ?_); refine goesL_ (some 56) rfl rfl Try.func36 (by kernel_rfl) rfl #[.agg #[.slice A0_0 l0_0.length c0_0, .slice A0_1 l0_1.length c0_1, .int .i64 a0_2, .string a0_3, .int .i64 a0_4], .int .i64 (wrap64 (x1_1 + 1)), .int .i64 a2] rfl (by (try simp only [List.map_toArray, List.map_cons, List.map_nil]); first | done | rfl | (simp only [List.length_drop, List.length_take]; rfl)) ?_; (with_reducible refine (HT.out _ _ l0_0 _ _ l0_1 a0_2 a0_3 a0_4 (wrap64 (x1_1 + 1)) a2 t149 t150 t151 t152 t153 _ ?side1 ?side2 ?side3 ?side4 A30.out).mono ?_); (case side1 => repeat (first | exact (Kd.C_below HR0_0.out HB.out)|(with_reducible refine Kd.C_alloc ?_ _)|(with_reducible refine Kd.C_drewN ?_ _)|(with_reducible refine Kd.C_drew ?_))); (case side2 => exact HC0_0.out); (case side3 => repeat (first | exact (Kd.C_below HR0_1.out HB.out)|(with_reducible refine Kd.C_alloc ?_ _)|(with_reducible refine Kd.C_drewN ?_ _)|(with_reducible refine Kd.C_drew ?_))); (case side4 => exact HC0_1.out); rintro e w63 ⟨rfl, hb⟩; refine ⟨_, rfl, ?_⟩; have n0_ := Aside0.mk (blk_below (by (with_reducible repeat(first|apply bN|apply bD)); exact BK138.out) hb); have n1_ := Aside0.mk (blk_below (by (with_reducible repeat(first|apply bN|apply bD)); exact BK139.out) hb); have n2_ := Aside0.mk (blk_below (by (with_reducible repeat(first|apply bN|apply bD)); exact BK145.out) hb); have n3_ := Aside0.mk (below_step (by repeat (first|(with_reducible first | exact HB.out | apply below_alloc | apply pw_below_drewN | apply below_drew1 | refine below_set ?_ GE138.out | refine below_set ?_ GE139.out | refine below_set ?_ GE145.out) | exact HB.out)) hb); clear BK138; clear BK139; clear BK145; clear HB; have BK138 := n0_; have BK139 := n1_; have BK145 := n2_; have HB := n3_; clear n0_ n1_ n2_ n3_; (try clear hb); (try clear hb2); (try clear hk); (try clear hi)) | ((with_reducible refine gate_dst (N := 11) rfl ?_); refine box_event ?hg (N := 11) ?hd (cs := #[.int .i64 0, .string (⟨#[]⟩ : ByteArray), .int .i64 0]) (t := 24) ?hr ?_; (case hd => rfl); (case hg => rfl); (case hr => first | (go_simp; done) | (go_simp; rfl)); intro gb154 hg w64 hbox hb; have n0_ := Aside0.mk (blk_below (by (with_reducible repeat(first|apply bN|apply bD)); exact BK138.out) hb); have n1_ := Aside0.mk (blk_below (by (with_reducible repeat(first|apply bN|apply bD)); exact BK139.out) hb); have n2_ := Aside0.mk (blk_below (by (with_reducible repeat(first|apply bN|apply bD)); exact BK145.out) hb); have n3_ := Aside0.mk (below_step (by repeat (first|(with_reducible first | exact HB.out | apply below_alloc | apply pw_below_drewN | apply below_drew1 | refine below_set ?_ GE138.out | refine below_set ?_ GE139.out | refine below_set ?_ GE145.out) | exact HB.out)) hb); have n4_ := Aside0.mk (hbox); have n5_ := Aside0.mk ((by rw [hg]; exact (below_size (by repeat (first|(with_reducible first | exact HB.out | apply below_alloc | apply pw_below_drewN | apply below_drew1 | refine below_set ?_ GE138.out | refine below_set ?_ GE139.out | refine below_set ?_ GE145.out) | exact HB.out))) : w.heap.size ≤ gb154)); have n6_ := n5_; have n7_ := Aside0.mk ((by rw [hg]; exact Nat.ne_of_lt (blk_lt (by (with_reducible repeat(first|apply bN|apply bD)); exact BK138.out)) : gb138 ≠ gb154)); have n8_ := Aside0.mk n7_.out.symm; have n9_ := Aside0.mk ((by rw [hg]; exact Nat.ne_of_lt (blk_lt (by (with_reducible repeat(first|apply bN|apply bD)); exact BK139.out)) : gb139 ≠ gb154)); have n10_ := Aside0.mk n9_.out.symm; have n11_ := Aside0.mk ((by rw [hg]; exact Nat.ne_of_lt (blk_lt (by (with_reducible repeat(first|apply bN|apply bD)); exact BK145.out)) : gb145 ≠ gb154)); have n12_ := Aside0.mk n11_.out.symm; clear BK138; clear BK139; clear BK145; clear HB; have BK138 := n0_; have BK139 := n1_; have BK145 := n2_; have HB := n3_; have BK154 := n4_; have GW154 := n5_; have GE154 := n6_; have NB138_154 := n7_; have NB154_138 := n8_; have NB139_154 := n9_; have NB154_139 := n10_; have NB145_154 := n11_; have NB154_145 := n12_; clear n0_ n1_ n2_ n3_ n4_ n5_ n6_ n7_ n8_ n9_ n10_ n11_ n12_; clear hb hbox hg; have hnb65 := NB154_138.out; have hnc65 := NB138_154.out; have hnb66 := NB154_139.out; have hnc66 := NB139_154.out; have hnb67 := NB154_145.out; have hnc67 := NB145_154.out; have hcz68_0 : w64.cell? ⟨gb154, 0, none⟩ = some (.int .i64 0) := (blk_cell BK154.out 0).trans rfl; have hcz68_1 : w64.cell? ⟨gb154, 1, none⟩ = some (.string (⟨#[]⟩ : ByteArray)) := (blk_cell BK154.out 1).trans rfl; have hcz68_2 : w64.cell? ⟨gb154, 2, none⟩ = some (.int .i64 0) := (blk_cell BK154.out 2).trans rfl; have hfz68_0 := blk_frozen BK154.out 0; have hfz68_1 := blk_frozen BK154.out 1; have hfz68_2 := blk_frozen BK154.out 2))
           have n0_ : Aside0 ((((w64.setCell ⟨gb154, 0, none⟩ (.int .i64 t149)).setCell ⟨gb154, 1, none⟩ (.string t150)).setCell ⟨gb154, 2, none⟩ (.int .i64 t151)).heap[gb138]? = some (.cells #[.slice A0_0 l0_0.length c0_0, .slice A0_1 l0_1.length c0_1, .int .i64 a0_2, .string a0_3, .int .i64 a0_4] 58 (0, 0))) := ⟨by (with_reducible repeat(first|apply bN|apply bD)); refine blk_far ?_ NB138_154.out _; (with_reducible repeat(first|apply bN|apply bD)); refine blk_far ?_ NB138_154.out _; (with_reducible repeat(first|apply bN|apply bD)); refine blk_far ?_ NB138_154.out _; (with_reducible repeat(first|apply bN|apply bD)); exact BK138.out⟩
           have n1_ : Aside0 ((((w64.setCell ⟨gb154, 0, none⟩ (.int .i64 t149)).setCell ⟨gb154, 1, none⟩ (.string t150)).setCell ⟨gb154, 2, none⟩ (.int .i64 t151)).heap[gb139]? = some (.cells #[.int .i64 x140000_1, .string x140001_1, .int .i64 x140002_1] 24 (0, 0))) := ⟨by (with_reducible repeat(first|apply bN|apply bD)); refine blk_far ?_ NB139_154.out _; (with_reducible repeat(first|apply bN|apply bD)); refine blk_far ?_ NB139_154.out _; (with_reducible repeat(first|apply bN|apply bD)); refine blk_far ?_ NB139_154.out _; (with_reducible repeat(first|apply bN|apply bD)); exact BK139.out⟩
           have n2_ : Aside0 ((((w64.setCell ⟨gb154, 0, none⟩ (.int .i64 t149)).setCell ⟨gb154, 1, none⟩ (.string t150)).setCell ⟨gb154, 2, none⟩ (.int .i64 t151)).heap[gb145]? = some (.cells #[.int .i64 x146000_1, .string x146001_1, .int .i64 x146002_1] 24 (0, 0))) := ⟨by (with_reducible repeat(first|apply bN|apply bD)); refine blk_far ?_ NB145_154.out _; (with_reducible repeat(first|apply bN|apply bD)); refine blk_far ?_ NB145_154.out _; (with_reducible repeat(first|apply bN|apply bD)); refine blk_far ?_ NB145_154.out _; (with_reducible repeat(first|apply bN|apply bD)); exact BK145.out⟩
           have n3_ : Aside0 ((((w64.setCell ⟨gb154, 0, none⟩ (.int .i64 t149)).setCell ⟨gb154, 1, none⟩ (.string t150)).setCell ⟨gb154, 2, none⟩ (.int .i64 t151)).heap[gb154]? = some (.cells #[.int .i64 t149, .string t150, .int .i64 t151] 24 (0, 0))) := ⟨by (with_reducible repeat(first|apply bN|apply bD)); refine blk_put (cs := #[.int .i64 t149, .string t150, .int .i64 0]) ?_ 2 _ rfl; (with_reducible repeat(first|apply bN|apply bD)); refine blk_put (cs := #[.int .i64 t149, .string (⟨#[]⟩ : ByteArray), .int .i64 0]) ?_ 1 _ rfl; (with_reducible repeat(first|apply bN|apply bD)); refine blk_put (cs := #[.int .i64 0, .string (⟨#[]⟩ : ByteArray), .int .i64 0]) ?_ 0 _ rfl; (with_reducible repeat(first|apply bN|apply bD)); exact BK154.out⟩
           have n4_ : Aside0 (Below w.heap.size w (((w64.setCell ⟨gb154, 0, none⟩ (.int .i64 t149)).setCell ⟨gb154, 1, none⟩ (.string t150)).setCell ⟨gb154, 2, none⟩ (.int .i64 t151))) := ⟨by repeat (first|(with_reducible first | exact HB.out | apply below_alloc | apply pw_below_drewN | apply below_drew1 | refine below_set ?_ GE138.out | refine below_set ?_ GE139.out | refine below_set ?_ GE145.out | refine below_set ?_ GE154.out) | exact HB.out)⟩
           (try clear BK138)
           (try clear BK139)
           (try clear BK145)
           (try clear BK154)
           (try clear HB)
           generalize (((w64.setCell ⟨gb154, 0, none⟩ (.int .i64 t149)).setCell ⟨gb154, 1, none⟩ (.string t150)).setCell ⟨gb154, 2, none⟩ (.int .i64 t151)) = w69 at n0_ n1_ n2_ n3_ n4_ ⊢
           have BK138 := n0_
           have BK139 := n1_
           have BK145 := n2_
           have BK154 := n3_
           have HB := n4_
           clear n0_ n1_ n2_ n3_ n4_
           have n0_ := Aside0.mk (blk_drew BK138.out)
           have n1_ := Aside0.mk (blk_drew BK139.out)
           have n2_ := Aside0.mk (blk_drew BK145.out)
           have n3_ := Aside0.mk (blk_drew BK154.out)
           have n4_ := Aside0.mk (below_drew1 HB.out)
           clear BK138
           clear BK139
           clear BK145
           clear BK154
           clear HB
           have BK138 := n0_
           have BK139 := n1_
           have BK145 := n2_
           have BK154 := n3_
           have HB := n4_
           clear n0_ n1_ n2_ n3_ n4_
           have p155 : 0 ≤ (x1_1 : Int) := of_decide_eq_true (by first|(with_reducible assumption) | assumption)
           have q155 : x1_1 < (l0_0.length : Int) := of_decide_eq_true (by first|(with_reducible assumption) | assumption)
           obtain ⟨ad155, e155, hx155_0, hx155_1, hx155_2, hx155_3⟩ := at_T38 HR0_0.out x1_1 p155 q155
           have hw155_3 := hx155_3
           have hw155_2 := hx155_2
           have hw155_1 := hx155_1
           have hw155_0 := hx155_0
           cases e155
           replace hx155_0 := (HB.out.cell (World.block_lt_of_cell? w _ hx155_0)).trans hx155_0
           replace hx155_1 := (HB.out.cell (World.block_lt_of_cell? w _ hx155_1)).trans hx155_1
           replace hx155_2 := (HB.out.cell (World.block_lt_of_cell? w _ hx155_2)).trans hx155_2
           replace hx155_3 := (HB.out.cell (World.block_lt_of_cell? w _ hx155_3)).trans hx155_3
           replace p155 := eq_true p155
           replace q155 := eq_true q155
           refine start_ (n := 15) (S := fun w' => w'.cell? ⟨gb138, 0, none⟩ = some (.slice (some ad155) l0_0.length c0_0) ∧ w'.cell? ⟨gb138, 1, none⟩ = some (.slice A0_1 l0_1.length c0_1) ∧ w'.cell? ⟨gb138, 2, none⟩ = some (.int .i64 a0_2) ∧ w'.cell? ⟨gb138, 3, none⟩ = some (.string a0_3) ∧ w'.cell? ⟨gb138, 4, none⟩ = some (.int .i64 a0_4) ∧ w'.cell? ⟨gb145, 0, none⟩ = some (.int .i64 x146000_1) ∧ w'.cell? ⟨gb145, 1, none⟩ = some (.string x146001_1) ∧ w'.cell? ⟨gb145, 2, none⟩ = some (.int .i64 x146002_1) ∧ w'.cell? ⟨gb154, 0, none⟩ = some (.int .i64 t149) ∧ w'.cell? ⟨gb154, 1, none⟩ = some (.string t150) ∧ w'.cell? ⟨gb154, 2, none⟩ = some (.int .i64 t151) ∧ w'.cell? (ad155.add ((x1_1).toNat * 4)) = some (.int .i64 ((rd_T38 l0_0 x1_1).f0)) ∧ w'.cell? ⟨(ad155.add ((x1_1).toNat * 4)).block, (ad155.add ((x1_1).toNat * 4)).off + 1, none⟩ = some (.string ((rd_T38 l0_0 x1_1).f1)) ∧ w'.cell? ⟨(ad155.add ((x1_1).toNat * 4)).block, (ad155.add ((x1_1).toNat * 4)).off + 2, none⟩ = some (.int .i64 ((rd_T38 l0_0 x1_1).f2)) ∧ w'.cell? ⟨(ad155.add ((x1_1).toNat * 4)).block, (ad155.add ((x1_1).toNat * 4)).off + 3, none⟩ = some (.int .i64 ((rd_T38 l0_0 x1_1).f3))) (ds := []) #[false, false, false, false, false, false, false, false, false, false, false, false, false, false, false] (by kernel_rfl) rfl rfl ⟨(blk_cell BK138.out 0).trans rfl, (blk_cell BK138.out 1).trans rfl, (blk_cell BK138.out 2).trans rfl, (blk_cell BK138.out 3).trans rfl, (blk_cell BK138.out 4).trans rfl, (blk_cell BK145.out 0).trans rfl, (blk_cell BK145.out 1).trans rfl, (blk_cell BK145.out 2).trans rfl, (blk_cell BK154.out 0).trans rfl, (blk_cell BK154.out 1).trans rfl, (blk_cell BK154.out 2).trans rfl, ((HB.out.cell (World.block_lt_of_cell? w _ hw155_0)).trans hw155_0), ((HB.out.cell (World.block_lt_of_cell? w _ hw155_1)).trans hw155_1), ((HB.out.cell (World.block_lt_of_cell? w _ hw155_2)).trans hw155_2), ((HB.out.cell (World.block_lt_of_cell? w _ hw155_3)).trans hw155_3)⟩ (fun hHeld => ?_); refine with_tabW rexp27.tab8 rexp27.bits8 (fun HT_ HW_ => ?_)
           generalize w69.drew = w70 at BK138 BK139 BK145 BK154 HB hx155_0 hx155_1 hx155_2 hx155_3 hHeld ⊢
           refine pure_ (i := 0) (N := some 65) (v := ?_) (a' := ?_) #[true, false, false, false, false, false, false, false, false, false, false, false, false, false, false] rfl rfl (any_of HT_.out (by kernel_rfl)) (fun _ _ _ h => h) (Or.inl ⟨by rfl, ?_⟩) ?_ ?_
           rotate_left
           ·intro w'
            go_simp
            with_reducible rfl
           rotate_left
           ·simp only [Act.put, List.setIfInBounds_toArray, List.set_cons_zero, List.set_cons_succ, i64_w, i32_w]
            rfl
           refine pure_ (i := 2) (N := some 67) (v := ?_) (a' := ?_) #[true, false, true, false, false, false, false, false, false, false, false, false, false, false, false] rfl rfl (any_of HT_.out (by kernel_rfl)) (fun _ _ _ h => h) (Or.inl ⟨by rfl, ?_⟩) ?_ ?_
           rotate_left
           ·intro w'
            go_simp
            with_reducible rfl
           rotate_left
           ·simp only [Act.put, List.setIfInBounds_toArray, List.set_cons_zero, List.set_cons_succ, i64_w, i32_w]
            rfl
           refine take_ (i := 1) (N := some 66) (v := ?_) (a' := ?_) #[true, true, true, false, false, false, false, false, false, false, false, false, false, false, false] rfl rfl (take_ofW HT_.out HW_.out (by kernel_rfl)) (fun _ _ _ h => h) (Or.inl ⟨by rfl, ?_⟩) hHeld ?_ ?_
           rotate_left
           ·rintro w' ⟨s0, s1, s2, s3, s4, s5, s6, s7, s8, s9, s10, s11, s12, s13, s14⟩
            go_simp
            with_reducible rfl
           rotate_left
           ·simp only [Act.put, List.setIfInBounds_toArray, List.set_cons_zero, List.set_cons_succ, i64_w, i32_w]
            rfl
           refine pure_ (i := 3) (N := some 68) (v := ?_) (a' := ?_) #[true, true, true, true, false, false, false, false, false, false, false, false, false, false, false] rfl rfl (any_of HT_.out (by kernel_rfl)) (fun _ _ _ h => h) (Or.inl ⟨by rfl, ?_⟩) ?_ ?_
           rotate_left
           ·intro w'
            go_simp
            with_reducible rfl
           rotate_left
           ·simp only [Act.put, List.setIfInBounds_toArray, List.set_cons_zero, List.set_cons_succ, i64_w, i32_w]
            rfl
           refine pure_ (i := 4) (N := some 69) (v := ?_) (a' := ?_) #[true, true, true, true, true, false, false, false, false, false, false, false, false, false, false] rfl rfl (any_of HT_.out (by kernel_rfl)) (fun _ _ _ h => h) (Or.inl ⟨by rfl, ?_⟩) ?_ ?_
           rotate_left
           ·intro w'
            go_simp
            with_reducible rfl
           rotate_left
           ·simp only [Act.put, List.setIfInBounds_toArray, List.set_cons_zero, List.set_cons_succ, i64_w, i32_w]
            rfl
           refine take_ (i := 5) (N := some 70) (v := ?_) (a' := ?_) #[true, true, true, true, true, true, false, false, false, false, false, false, false, false, false] rfl rfl (take_ofW HT_.out HW_.out (by kernel_rfl)) (fun _ _ _ h => h) (Or.inl ⟨by rfl, ?_⟩) hHeld ?_ ?_
           rotate_left
           ·rintro w' ⟨s0, s1, s2, s3, s4, s5, s6, s7, s8, s9, s10, s11, s12, s13, s14⟩
            go_simp
            with_reducible rfl
           rotate_left
           ·simp only [Act.put, List.setIfInBounds_toArray, List.set_cons_zero, List.set_cons_succ, i64_w, i32_w]
            rfl
           refine take_ (i := 6) (N := some 71) (v := ?_) (a' := ?_) #[true, true, true, true, true, true, true, false, false, false, false, false, false, false, false] rfl rfl (take_ofW HT_.out HW_.out (by kernel_rfl)) (fun _ _ _ h => h) (Or.inl ⟨by rfl, ?_⟩) hHeld ?_ ?_
           rotate_left
           ·rintro w' ⟨s0, s1, s2, s3, s4, s5, s6, s7, s8, s9, s10, s11, s12, s13, s14⟩
            go_simp
            with_reducible rfl
           rotate_left
           ·simp only [Act.put, List.setIfInBounds_toArray, List.set_cons_zero, List.set_cons_succ, i64_w, i32_w]
            rfl
           refine take_ (i := 7) (N := some 72) (v := ?_) (a' := ?_) #[true, true, true, true, true, true, true, true, false, false, false, false, false, false, false] rfl rfl (take_ofW HT_.out HW_.out (by kernel_rfl)) (fun _ _ _ h => h) (Or.inl ⟨by rfl, ?_⟩) hHeld ?_ ?_
           rotate_left
           ·rintro w' ⟨s0, s1, s2, s3, s4, s5, s6, s7, s8, s9, s10, s11, s12, s13, s14⟩
            go_simp
            with_reducible rfl
           rotate_left
           ·simp only [Act.put, List.setIfInBounds_toArray, List.set_cons_zero, List.set_cons_succ, i64_w, i32_w]
            rfl
           refine join_ (σ := Nat) 2 #[true, true, true, true, true, true, true, true, true, true, true, true, true, false, false] (fun s_ => [(73, .tuple #[.agg #[.int .i64 t156, .string t157, .int .i64 t158], .int .i64 t159]), (14, .pointer (some ⟨s_, 0, none⟩)), (64, .tuple #[.agg #[.int .i64 t156, .string t157, .int .i64 t158], .int .i64 t159]), (74, .agg #[.int .i64 t156, .string t157, .int .i64 t158]), (75, .int .i64 t159)]) (fun s_ w' => (w'.cell? ⟨gb138, 0, none⟩ = some (.slice (some ad155) l0_0.length c0_0) ∧ w'.cell? ⟨gb138, 1, none⟩ = some (.slice A0_1 l0_1.length c0_1) ∧ w'.cell? ⟨gb138, 2, none⟩ = some (.int .i64 a0_2) ∧ w'.cell? ⟨gb138, 3, none⟩ = some (.string a0_3) ∧ w'.cell? ⟨gb138, 4, none⟩ = some (.int .i64 a0_4) ∧ w'.cell? ⟨gb145, 0, none⟩ = some (.int .i64 x146000_1) ∧ w'.cell? ⟨gb145, 1, none⟩ = some (.string x146001_1) ∧ w'.cell? ⟨gb145, 2, none⟩ = some (.int .i64 x146002_1) ∧ w'.cell? ⟨gb154, 0, none⟩ = some (.int .i64 t149) ∧ w'.cell? ⟨gb154, 1, none⟩ = some (.string t150) ∧ w'.cell? ⟨gb154, 2, none⟩ = some (.int .i64 t151) ∧ w'.cell? (ad155.add ((x1_1).toNat * 4)) = some (.int .i64 ((rd_T38 l0_0 x1_1).f0)) ∧ w'.cell? ⟨(ad155.add ((x1_1).toNat * 4)).block, (ad155.add ((x1_1).toNat * 4)).off + 1, none⟩ = some (.string ((rd_T38 l0_0 x1_1).f1)) ∧ w'.cell? ⟨(ad155.add ((x1_1).toNat * 4)).block, (ad155.add ((x1_1).toNat * 4)).off + 2, none⟩ = some (.int .i64 ((rd_T38 l0_0 x1_1).f2)) ∧ w'.cell? ⟨(ad155.add ((x1_1).toNat * 4)).block, (ad155.add ((x1_1).toNat * 4)).off + 3, none⟩ = some (.int .i64 ((rd_T38 l0_0 x1_1).f3))) ∧ (w'.heap[gb138]? = some (.cells #[.slice (some ad155) l0_0.length c0_0, .slice A0_1 l0_1.length c0_1, .int .i64 a0_2, .string a0_3, .int .i64 a0_4] 58 (0, 0))) ∧ (w'.heap[gb139]? = some (.cells #[.int .i64 x140000_1, .string x140001_1, .int .i64 x140002_1] 24 (0, 0))) ∧ (w'.heap[gb145]? = some (.cells #[.int .i64 x146000_1, .string x146001_1, .int .i64 x146002_1] 24 (0, 0))) ∧ (w'.heap[gb154]? = some (.cells #[.int .i64 t149, .string t150, .int .i64 t151] 24 (0, 0))) ∧ (w'.heap[s_]? = some (.cells #[.int .i64 0, .string (⟨#[]⟩ : ByteArray), .int .i64 0] 24 (0, 0))) ∧ (w.heap.size ≤ s_) ∧ (w.heap.size ≤ s_) ∧ (gb138 ≠ s_) ∧ (s_ ≠ gb138) ∧ (gb139 ≠ s_) ∧ (s_ ≠ gb139) ∧ (gb145 ≠ s_) ∧ (s_ ≠ gb145) ∧ (gb154 ≠ s_) ∧ (s_ ≠ gb154) ∧ (Below w.heap.size w w')) ?_ ?_
           rotate_left
           ·intro hCont
            refine two_ (i := 8) (j := 12) (Ni := some 73) (Nj := some 14) #[true, true, true, true, true, true, true, true, true, false, false, false, false, false, false] #[true, true, true, true, true, true, true, true, false, false, false, false, true, false, false] rfl rfl rfl rfl (two_of HT_.out (by kernel_rfl)) (by decide) (by decide) (fun K hK => ?_) (fun K hK => ?_)
            ·skip
             refine goes_ Try.func24 (by kernel_rfl) rfl #[.string ((rd_T38 l0_0 x1_1).f1), .agg #[.int .i64 x146000_1, .string x146001_1, .int .i64 x146002_1], .agg #[.int .i64 t149, .string t150, .int .i64 t151]] (by rfl) rfl rfl (by (try simp only [List.map_toArray, List.map_cons, List.map_nil]); first | done | rfl | (simp only [List.length_drop, List.length_take]; rfl)) ?_
             with_reducible refine (emulatorref26_Binary.calls kj14 ((rd_T38 l0_0 x1_1).f1) x146000_1 x146001_1 x146002_1 t149 t150 t151 t156 t157 t158 t159 _ A34.out).mono ?_
             rintro e w71 ⟨rfl, hb⟩
             refine ⟨_, rfl, ?_⟩
             have n0_ := Aside0.mk (blk_below (by (with_reducible repeat(first|apply bN|apply bD)); exact BK138.out) hb)
             have n1_ := Aside0.mk (blk_below (by (with_reducible repeat(first|apply bN|apply bD)); exact BK139.out) hb)
             have n2_ := Aside0.mk (blk_below (by (with_reducible repeat(first|apply bN|apply bD)); exact BK145.out) hb)
             have n3_ := Aside0.mk (blk_below (by (with_reducible repeat(first|apply bN|apply bD)); exact BK154.out) hb)
             have n4_ := Aside0.mk (below_step (by repeat (first|(with_reducible first | exact HB.out | apply below_alloc | apply pw_below_drewN | apply below_drew1 | refine below_set ?_ GE138.out | refine below_set ?_ GE139.out | refine below_set ?_ GE145.out | refine below_set ?_ GE154.out) | exact HB.out)) hb)
             clear BK138
             clear BK139
             clear BK145
             clear BK154
             clear HB
             have BK138 := n0_
             have BK139 := n1_
             have BK145 := n2_
             have BK154 := n3_
             have HB := n4_
             clear n0_ n1_ n2_ n3_ n4_
             (try clear hb)
             (try clear hb2)
             (try clear hk)
             (try clear hi)
             refine hK.out _ _ ⟨(blk_cell BK138.out 0).trans rfl, (blk_cell BK138.out 1).trans rfl, (blk_cell BK138.out 2).trans rfl, (blk_cell BK138.out 3).trans rfl, (blk_cell BK138.out 4).trans rfl, (blk_cell BK145.out 0).trans rfl, (blk_cell BK145.out 1).trans rfl, (blk_cell BK145.out 2).trans rfl, (blk_cell BK154.out 0).trans rfl, (blk_cell BK154.out 1).trans rfl, (blk_cell BK154.out 2).trans rfl, ((HB.out.cell (World.block_lt_of_cell? w _ hw155_0)).trans hw155_0), ((HB.out.cell (World.block_lt_of_cell? w _ hw155_1)).trans hw155_1), ((HB.out.cell (World.block_lt_of_cell? w _ hw155_2)).trans hw155_2), ((HB.out.cell (World.block_lt_of_cell? w _ hw155_3)).trans hw155_3)⟩ (fun hHeld => ?_)
             clear hK K
             refine norm_ (a' := ?_) ?_ ?_
             rotate_left
             ·show Act.put _ (some 73) _ = _
              simp only [Act.put, List.setIfInBounds_toArray, List.set_cons_zero, List.set_cons_succ, i64_w, i32_w]
              rfl
             refine pure_ (i := 9) (N := some 64) (v := ?_) (a' := ?_) #[true, true, true, true, true, true, true, true, true, true, false, false, false, false, false] rfl rfl (any_of HT_.out (by kernel_rfl)) (fun _ _ _ h => h) (Or.inl ⟨by rfl, ?_⟩) ?_ ?_
             rotate_left
             ·intro w'
              go_simp
              with_reducible rfl
             rotate_left
             ·simp only [Act.put, List.setIfInBounds_toArray, List.set_cons_zero, List.set_cons_succ, i64_w, i32_w]
              rfl
             refine pure_ (i := 10) (N := some 74) (v := ?_) (a' := ?_) #[true, true, true, true, true, true, true, true, true, true, true, false, false, false, false] rfl rfl (any_of HT_.out (by kernel_rfl)) (fun _ _ _ h => h) (Or.inl ⟨by rfl, ?_⟩) ?_ ?_
             rotate_left
             ·intro w'
              go_simp
              with_reducible rfl
             rotate_left
             ·simp only [Act.put, List.setIfInBounds_toArray, List.set_cons_zero, List.set_cons_succ, i64_w, i32_w]
              rfl
             refine pure_ (i := 11) (N := some 75) (v := ?_) (a' := ?_) #[true, true, true, true, true, true, true, true, true, true, true, true, false, false, false] rfl rfl (any_of HT_.out (by kernel_rfl)) (fun _ _ _ h => h) (Or.inl ⟨by rfl, ?_⟩) ?_ ?_
             rotate_left
             ·intro w'
              go_simp
              with_reducible rfl
             rotate_left
             ·simp only [Act.put, List.setIfInBounds_toArray, List.set_cons_zero, List.set_cons_succ, i64_w, i32_w]
              rfl
             refine one_ (i := 12) (N := some 14) #[true, true, true, true, true, true, true, true, true, true, true, true, true, false, false] rfl rfl (one_of HT_.out (by kernel_rfl)) (by decide) (fun K hK => ?_)
             refine box_step ?hg (N := 14) ?hd (cs := #[.int .i64 0, .string (⟨#[]⟩ : ByteArray), .int .i64 0]) (t := 24) ?hr ?_; (case hd => rfl); (case hg => rfl); (case hr => first | (go_simp; done) | (go_simp; rfl))
             intro gb160 hg w72 hbox hb
             have n0_ := Aside0.mk (blk_below (by (with_reducible repeat(first|apply bN|apply bD)); exact BK138.out) hb)
             have n1_ := Aside0.mk (blk_below (by (with_reducible repeat(first|apply bN|apply bD)); exact BK139.out) hb)
             have n2_ := Aside0.mk (blk_below (by (with_reducible repeat(first|apply bN|apply bD)); exact BK145.out) hb)
             have n3_ := Aside0.mk (blk_below (by (with_reducible repeat(first|apply bN|apply bD)); exact BK154.out) hb)
             have n4_ := Aside0.mk (below_step (by repeat (first|(with_reducible first | exact HB.out | apply below_alloc | apply pw_below_drewN | apply below_drew1 | refine below_set ?_ GE138.out | refine below_set ?_ GE139.out | refine below_set ?_ GE145.out | refine below_set ?_ GE154.out) | exact HB.out)) hb)
             have n5_ := Aside0.mk (hbox)
             have n6_ := Aside0.mk ((by rw [hg]; exact (below_size (by repeat (first|(with_reducible first | exact HB.out | apply below_alloc | apply pw_below_drewN | apply below_drew1 | refine below_set ?_ GE138.out | refine below_set ?_ GE139.out | refine below_set ?_ GE145.out | refine below_set ?_ GE154.out) | exact HB.out))) : w.heap.size ≤ gb160))
             have n7_ := Aside0.mk ((by rw [hg]; exact (below_size (by repeat (first|(with_reducible first | exact HB.out | apply below_alloc | apply pw_below_drewN | apply below_drew1 | refine below_set ?_ GE138.out | refine below_set ?_ GE139.out | refine below_set ?_ GE145.out | refine below_set ?_ GE154.out) | exact HB.out))) : w.heap.size ≤ gb160))
             have n8_ := Aside0.mk ((by rw [hg]; exact Nat.ne_of_lt (blk_lt (by (with_reducible repeat(first|apply bN|apply bD)); exact BK138.out)) : gb138 ≠ gb160))
             have n9_ := Aside0.mk ((by rw [hg]; exact Nat.ne_of_gt (blk_lt (by (with_reducible repeat(first|apply bN|apply bD)); exact BK138.out)) : gb160 ≠ gb138))
             have n10_ := Aside0.mk ((by rw [hg]; exact Nat.ne_of_lt (blk_lt (by (with_reducible repeat(first|apply bN|apply bD)); exact BK139.out)) : gb139 ≠ gb160))
             have n11_ := Aside0.mk ((by rw [hg]; exact Nat.ne_of_gt (blk_lt (by (with_reducible repeat(first|apply bN|apply bD)); exact BK139.out)) : gb160 ≠ gb139))
             have n12_ := Aside0.mk ((by rw [hg]; exact Nat.ne_of_lt (blk_lt (by (with_reducible repeat(first|apply bN|apply bD)); exact BK145.out)) : gb145 ≠ gb160))
             have n13_ := Aside0.mk ((by rw [hg]; exact Nat.ne_of_gt (blk_lt (by (with_reducible repeat(first|apply bN|apply bD)); exact BK145.out)) : gb160 ≠ gb145))
             have n14_ := Aside0.mk ((by rw [hg]; exact Nat.ne_of_lt (blk_lt (by (with_reducible repeat(first|apply bN|apply bD)); exact BK154.out)) : gb154 ≠ gb160))
             have n15_ := Aside0.mk ((by rw [hg]; exact Nat.ne_of_gt (blk_lt (by (with_reducible repeat(first|apply bN|apply bD)); exact BK154.out)) : gb160 ≠ gb154))
             clear BK138
             clear BK139
             clear BK145
             clear BK154
             clear HB
             have BK138 := n0_
             have BK139 := n1_
             have BK145 := n2_
             have BK154 := n3_
             have HB := n4_
             have BK160 := n5_
             have GW160 := n6_
             have GE160 := n7_
             have NB138_160 := n8_
             have NB160_138 := n9_
             have NB139_160 := n10_
             have NB160_139 := n11_
             have NB145_160 := n12_
             have NB160_145 := n13_
             have NB154_160 := n14_
             have NB160_154 := n15_
             clear n0_ n1_ n2_ n3_ n4_ n5_ n6_ n7_ n8_ n9_ n10_ n11_ n12_ n13_ n14_ n15_
             clear hb hbox hg
             refine hK.out _ _ ⟨(blk_cell BK138.out 0).trans rfl, (blk_cell BK138.out 1).trans rfl, (blk_cell BK138.out 2).trans rfl, (blk_cell BK138.out 3).trans rfl, (blk_cell BK138.out 4).trans rfl, (blk_cell BK145.out 0).trans rfl, (blk_cell BK145.out 1).trans rfl, (blk_cell BK145.out 2).trans rfl, (blk_cell BK154.out 0).trans rfl, (blk_cell BK154.out 1).trans rfl, (blk_cell BK154.out 2).trans rfl, ((HB.out.cell (World.block_lt_of_cell? w _ hw155_0)).trans hw155_0), ((HB.out.cell (World.block_lt_of_cell? w _ hw155_1)).trans hw155_1), ((HB.out.cell (World.block_lt_of_cell? w _ hw155_2)).trans hw155_2), ((HB.out.cell (World.block_lt_of_cell? w _ hw155_3)).trans hw155_3)⟩ (fun hHeld => ?_)
             clear hK K
             refine norm_ (a' := ?_) ?_ ?_
             rotate_left
             ·show Act.put _ (some 14) _ = _
              simp only [Act.put, List.setIfInBounds_toArray, List.set_cons_zero, List.set_cons_succ, i64_w, i32_w]
              rfl
             exact norm_ (by simp only [putAll, Act.put, List.setIfInBounds_toArray, List.set_cons_zero, List.set_cons_succ]) (hCont (gb160) _ ⟨hHeld, (by (with_reducible repeat(first|apply bN|apply bD)); exact BK138.out), (by (with_reducible repeat(first|apply bN|apply bD)); exact BK139.out), (by (with_reducible repeat(first|apply bN|apply bD)); exact BK145.out), (by (with_reducible repeat(first|apply bN|apply bD)); exact BK154.out), (by (with_reducible repeat(first|apply bN|apply bD)); exact BK160.out), GW160.out, GE160.out, NB138_160.out, NB160_138.out, NB139_160.out, NB160_139.out, NB145_160.out, NB160_145.out, NB154_160.out, NB160_154.out, (by repeat (first|(with_reducible first | exact HB.out | apply below_alloc | apply pw_below_drewN | apply below_drew1 | refine below_set ?_ GE138.out | refine below_set ?_ GE139.out | refine below_set ?_ GE145.out | refine below_set ?_ GE154.out | refine below_set ?_ GE160.out) | exact HB.out))⟩)
            ·skip
             refine box_step ?hg (N := 14) ?hd (cs := #[.int .i64 0, .string (⟨#[]⟩ : ByteArray), .int .i64 0]) (t := 24) ?hr ?_; (case hd => rfl); (case hg => rfl); (case hr => first | (go_simp; done) | (go_simp; rfl))
             intro gb160 hg w71 hbox hb
             have n0_ := Aside0.mk (blk_below (by (with_reducible repeat(first|apply bN|apply bD)); exact BK138.out) hb)
             have n1_ := Aside0.mk (blk_below (by (with_reducible repeat(first|apply bN|apply bD)); exact BK139.out) hb)
             have n2_ := Aside0.mk (blk_below (by (with_reducible repeat(first|apply bN|apply bD)); exact BK145.out) hb)
             have n3_ := Aside0.mk (blk_below (by (with_reducible repeat(first|apply bN|apply bD)); exact BK154.out) hb)
             have n4_ := Aside0.mk (below_step (by repeat (first|(with_reducible first | exact HB.out | apply below_alloc | apply pw_below_drewN | apply below_drew1 | refine below_set ?_ GE138.out | refine below_set ?_ GE139.out | refine below_set ?_ GE145.out | refine below_set ?_ GE154.out) | exact HB.out)) hb)
             have n5_ := Aside0.mk (hbox)
             have n6_ := Aside0.mk ((by rw [hg]; exact (below_size (by repeat (first|(with_reducible first | exact HB.out | apply below_alloc | apply pw_below_drewN | apply below_drew1 | refine below_set ?_ GE138.out | refine below_set ?_ GE139.out | refine below_set ?_ GE145.out | refine below_set ?_ GE154.out) | exact HB.out))) : w.heap.size ≤ gb160))
             have n7_ := Aside0.mk ((by rw [hg]; exact (below_size (by repeat (first|(with_reducible first | exact HB.out | apply below_alloc | apply pw_below_drewN | apply below_drew1 | refine below_set ?_ GE138.out | refine below_set ?_ GE139.out | refine below_set ?_ GE145.out | refine below_set ?_ GE154.out) | exact HB.out))) : w.heap.size ≤ gb160))
             have n8_ := Aside0.mk ((by rw [hg]; exact Nat.ne_of_lt (blk_lt (by (with_reducible repeat(first|apply bN|apply bD)); exact BK138.out)) : gb138 ≠ gb160))
             have n9_ := Aside0.mk ((by rw [hg]; exact Nat.ne_of_gt (blk_lt (by (with_reducible repeat(first|apply bN|apply bD)); exact BK138.out)) : gb160 ≠ gb138))
             have n10_ := Aside0.mk ((by rw [hg]; exact Nat.ne_of_lt (blk_lt (by (with_reducible repeat(first|apply bN|apply bD)); exact BK139.out)) : gb139 ≠ gb160))
             have n11_ := Aside0.mk ((by rw [hg]; exact Nat.ne_of_gt (blk_lt (by (with_reducible repeat(first|apply bN|apply bD)); exact BK139.out)) : gb160 ≠ gb139))
             have n12_ := Aside0.mk ((by rw [hg]; exact Nat.ne_of_lt (blk_lt (by (with_reducible repeat(first|apply bN|apply bD)); exact BK145.out)) : gb145 ≠ gb160))
             have n13_ := Aside0.mk ((by rw [hg]; exact Nat.ne_of_gt (blk_lt (by (with_reducible repeat(first|apply bN|apply bD)); exact BK145.out)) : gb160 ≠ gb145))
             have n14_ := Aside0.mk ((by rw [hg]; exact Nat.ne_of_lt (blk_lt (by (with_reducible repeat(first|apply bN|apply bD)); exact BK154.out)) : gb154 ≠ gb160))
             have n15_ := Aside0.mk ((by rw [hg]; exact Nat.ne_of_gt (blk_lt (by (with_reducible repeat(first|apply bN|apply bD)); exact BK154.out)) : gb160 ≠ gb154))
             clear BK138
             clear BK139
             clear BK145
             clear BK154
             clear HB
             have BK138 := n0_
             have BK139 := n1_
             have BK145 := n2_
             have BK154 := n3_
             have HB := n4_
             have BK160 := n5_
             have GW160 := n6_
             have GE160 := n7_
             have NB138_160 := n8_
             have NB160_138 := n9_
             have NB139_160 := n10_
             have NB160_139 := n11_
             have NB145_160 := n12_
             have NB160_145 := n13_
             have NB154_160 := n14_
             have NB160_154 := n15_
             clear n0_ n1_ n2_ n3_ n4_ n5_ n6_ n7_ n8_ n9_ n10_ n11_ n12_ n13_ n14_ n15_
             clear hb hbox hg
             refine hK.out _ _ ⟨(blk_cell BK138.out 0).trans rfl, (blk_cell BK138.out 1).trans rfl, (blk_cell BK138.out 2).trans rfl, (blk_cell BK138.out 3).trans rfl, (blk_cell BK138.out 4).trans rfl, (blk_cell BK145.out 0).trans rfl, (blk_cell BK145.out 1).trans rfl, (blk_cell BK145.out 2).trans rfl, (blk_cell BK154.out 0).trans rfl, (blk_cell BK154.out 1).trans rfl, (blk_cell BK154.out 2).trans rfl, ((HB.out.cell (World.block_lt_of_cell? w _ hw155_0)).trans hw155_0), ((HB.out.cell (World.block_lt_of_cell? w _ hw155_1)).trans hw155_1), ((HB.out.cell (World.block_lt_of_cell? w _ hw155_2)).trans hw155_2), ((HB.out.cell (World.block_lt_of_cell? w _ hw155_3)).trans hw155_3)⟩ (fun hHeld => ?_)
             clear hK K
             refine norm_ (a' := ?_) ?_ ?_
             rotate_left
             ·show Act.put _ (some 14) _ = _
              simp only [Act.put, List.setIfInBounds_toArray, List.set_cons_zero, List.set_cons_succ, i64_w, i32_w]
              rfl
             refine one_ (i := 8) (N := some 73) #[true, true, true, true, true, true, true, true, true, false, false, false, true, false, false] rfl rfl (one_of HT_.out (by kernel_rfl)) (by decide) (fun K hK => ?_)
             refine goes_ Try.func24 (by kernel_rfl) rfl #[.string ((rd_T38 l0_0 x1_1).f1), .agg #[.int .i64 x146000_1, .string x146001_1, .int .i64 x146002_1], .agg #[.int .i64 t149, .string t150, .int .i64 t151]] (by rfl) rfl rfl (by (try simp only [List.map_toArray, List.map_cons, List.map_nil]); first | done | rfl | (simp only [List.length_drop, List.length_take]; rfl)) ?_
             with_reducible refine (emulatorref26_Binary.calls kj14 ((rd_T38 l0_0 x1_1).f1) x146000_1 x146001_1 x146002_1 t149 t150 t151 t156 t157 t158 t159 _ A34.out).mono ?_
             rintro e w72 ⟨rfl, hb⟩
             refine ⟨_, rfl, ?_⟩
             have n0_ := Aside0.mk (blk_below (by (with_reducible repeat(first|apply bN|apply bD)); exact BK138.out) hb)
             have n1_ := Aside0.mk (blk_below (by (with_reducible repeat(first|apply bN|apply bD)); exact BK139.out) hb)
             have n2_ := Aside0.mk (blk_below (by (with_reducible repeat(first|apply bN|apply bD)); exact BK145.out) hb)
             have n3_ := Aside0.mk (blk_below (by (with_reducible repeat(first|apply bN|apply bD)); exact BK154.out) hb)
             have n4_ := Aside0.mk (blk_below (by (with_reducible repeat(first|apply bN|apply bD)); exact BK160.out) hb)
             have n5_ := Aside0.mk (below_step (by repeat (first|(with_reducible first | exact HB.out | apply below_alloc | apply pw_below_drewN | apply below_drew1 | refine below_set ?_ GE138.out | refine below_set ?_ GE139.out | refine below_set ?_ GE145.out | refine below_set ?_ GE154.out | refine below_set ?_ GE160.out) | exact HB.out)) hb)
             clear BK138
             clear BK139
             clear BK145
             clear BK154
             clear BK160
             clear HB
             have BK138 := n0_
             have BK139 := n1_
             have BK145 := n2_
             have BK154 := n3_
             have BK160 := n4_
             have HB := n5_
             clear n0_ n1_ n2_ n3_ n4_ n5_
             (try clear hb)
             (try clear hb2)
             (try clear hk)
             (try clear hi)
             refine hK.out _ _ ⟨(blk_cell BK138.out 0).trans rfl, (blk_cell BK138.out 1).trans rfl, (blk_cell BK138.out 2).trans rfl, (blk_cell BK138.out 3).trans rfl, (blk_cell BK138.out 4).trans rfl, (blk_cell BK145.out 0).trans rfl, (blk_cell BK145.out 1).trans rfl, (blk_cell BK145.out 2).trans rfl, (blk_cell BK154.out 0).trans rfl, (blk_cell BK154.out 1).trans rfl, (blk_cell BK154.out 2).trans rfl, ((HB.out.cell (World.block_lt_of_cell? w _ hw155_0)).trans hw155_0), ((HB.out.cell (World.block_lt_of_cell? w _ hw155_1)).trans hw155_1), ((HB.out.cell (World.block_lt_of_cell? w _ hw155_2)).trans hw155_2), ((HB.out.cell (World.block_lt_of_cell? w _ hw155_3)).trans hw155_3)⟩ (fun hHeld => ?_)
             clear hK K
             refine norm_ (a' := ?_) ?_ ?_
             rotate_left
             ·show Act.put _ (some 73) _ = _
              simp only [Act.put, List.setIfInBounds_toArray, List.set_cons_zero, List.set_cons_succ, i64_w, i32_w]
              rfl
             refine pure_ (i := 9) (N := some 64) (v := ?_) (a' := ?_) #[true, true, true, true, true, true, true, true, true, true, false, false, true, false, false] rfl rfl (any_of HT_.out (by kernel_rfl)) (fun _ _ _ h => h) (Or.inl ⟨by rfl, ?_⟩) ?_ ?_
             rotate_left
             ·intro w'
              go_simp
              with_reducible rfl
             rotate_left
             ·simp only [Act.put, List.setIfInBounds_toArray, List.set_cons_zero, List.set_cons_succ, i64_w, i32_w]
              rfl
             refine pure_ (i := 10) (N := some 74) (v := ?_) (a' := ?_) #[true, true, true, true, true, true, true, true, true, true, true, false, true, false, false] rfl rfl (any_of HT_.out (by kernel_rfl)) (fun _ _ _ h => h) (Or.inl ⟨by rfl, ?_⟩) ?_ ?_
             rotate_left
             ·intro w'
              go_simp
              with_reducible rfl
             rotate_left
             ·simp only [Act.put, List.setIfInBounds_toArray, List.set_cons_zero, List.set_cons_succ, i64_w, i32_w]
              rfl
             refine pure_ (i := 11) (N := some 75) (v := ?_) (a' := ?_) #[true, true, true, true, true, true, true, true, true, true, true, true, true, false, false] rfl rfl (any_of HT_.out (by kernel_rfl)) (fun _ _ _ h => h) (Or.inl ⟨by rfl, ?_⟩) ?_ ?_
             rotate_left
             ·intro w'
              go_simp
              with_reducible rfl
             rotate_left
             ·simp only [Act.put, List.setIfInBounds_toArray, List.set_cons_zero, List.set_cons_succ, i64_w, i32_w]
              rfl
             exact norm_ (by simp only [putAll, Act.put, List.setIfInBounds_toArray, List.set_cons_zero, List.set_cons_succ]) (hCont (gb160) _ ⟨hHeld, (by (with_reducible repeat(first|apply bN|apply bD)); exact BK138.out), (by (with_reducible repeat(first|apply bN|apply bD)); exact BK139.out), (by (with_reducible repeat(first|apply bN|apply bD)); exact BK145.out), (by (with_reducible repeat(first|apply bN|apply bD)); exact BK154.out), (by (with_reducible repeat(first|apply bN|apply bD)); exact BK160.out), GW160.out, GE160.out, NB138_160.out, NB160_138.out, NB139_160.out, NB160_139.out, NB145_160.out, NB160_145.out, NB154_160.out, NB160_154.out, (by repeat (first|(with_reducible first | exact HB.out | apply below_alloc | apply pw_below_drewN | apply below_drew1 | refine below_set ?_ GE138.out | refine below_set ?_ GE139.out | refine below_set ?_ GE145.out | refine below_set ?_ GE154.out | refine below_set ?_ GE160.out) | exact HB.out))⟩)
           rintro gb160 w73 ⟨hS_, h0_, h1_, h2_, h3_, h4_, h5_, h6_, h7_, h8_, h9_, h10_, h11_, h12_, h13_, h14_, h15_⟩
           have n0_ : Aside0 (w73.heap[gb138]? = some (.cells #[.slice (some ad155) l0_0.length c0_0, .slice A0_1 l0_1.length c0_1, .int .i64 a0_2, .string a0_3, .int .i64 a0_4] 58 (0, 0))) := ⟨h0_⟩
           have n1_ : Aside0 (w73.heap[gb139]? = some (.cells #[.int .i64 x140000_1, .string x140001_1, .int .i64 x140002_1] 24 (0, 0))) := ⟨h1_⟩
           have n2_ : Aside0 (w73.heap[gb145]? = some (.cells #[.int .i64 x146000_1, .string x146001_1, .int .i64 x146002_1] 24 (0, 0))) := ⟨h2_⟩
           have n3_ : Aside0 (w73.heap[gb154]? = some (.cells #[.int .i64 t149, .string t150, .int .i64 t151] 24 (0, 0))) := ⟨h3_⟩
           have n4_ : Aside0 (w73.heap[gb160]? = some (.cells #[.int .i64 0, .string (⟨#[]⟩ : ByteArray), .int .i64 0] 24 (0, 0))) := ⟨h4_⟩
           have n5_ : Aside0 (w.heap.size ≤ gb160) := ⟨h5_⟩
           have n6_ : Aside0 (w.heap.size ≤ gb160) := ⟨h6_⟩
           have n7_ : Aside0 (gb138 ≠ gb160) := ⟨h7_⟩
           have n8_ : Aside0 (gb160 ≠ gb138) := ⟨h8_⟩
           have n9_ : Aside0 (gb139 ≠ gb160) := ⟨h9_⟩
           have n10_ : Aside0 (gb160 ≠ gb139) := ⟨h10_⟩
           have n11_ : Aside0 (gb145 ≠ gb160) := ⟨h11_⟩
           have n12_ : Aside0 (gb160 ≠ gb145) := ⟨h12_⟩
           have n13_ : Aside0 (gb154 ≠ gb160) := ⟨h13_⟩
           have n14_ : Aside0 (gb160 ≠ gb154) := ⟨h14_⟩
           have n15_ : Aside0 (Below w.heap.size w w73) := ⟨h15_⟩
           clear BK138
           clear BK139
           clear BK145
           clear BK154
           clear HB
           clear h0_ h1_ h2_ h3_ h4_ h5_ h6_ h7_ h8_ h9_ h10_ h11_ h12_ h13_ h14_ h15_
           have BK138 := n0_
           have BK139 := n1_
           have BK145 := n2_
           have BK154 := n3_
           have BK160 := n4_
           have GW160 := n5_
           have GE160 := n6_
           have NB138_160 := n7_
           have NB160_138 := n8_
           have NB139_160 := n9_
           have NB160_139 := n10_
           have NB145_160 := n11_
           have NB160_145 := n12_
           have NB154_160 := n13_
           have NB160_154 := n14_
           have HB := n15_
           clear n0_ n1_ n2_ n3_ n4_ n5_ n6_ n7_ n8_ n9_ n10_ n11_ n12_ n13_ n14_ n15_
           have hHeld : w73.cell? ⟨gb138, 0, none⟩ = some (.slice (some ad155) l0_0.length c0_0) ∧ w73.cell? ⟨gb138, 1, none⟩ = some (.slice A0_1 l0_1.length c0_1) ∧ w73.cell? ⟨gb138, 2, none⟩ = some (.int .i64 a0_2) ∧ w73.cell? ⟨gb138, 3, none⟩ = some (.string a0_3) ∧ w73.cell? ⟨gb138, 4, none⟩ = some (.int .i64 a0_4) ∧ w73.cell? ⟨gb145, 0, none⟩ = some (.int .i64 x146000_1) ∧ w73.cell? ⟨gb145, 1, none⟩ = some (.string x146001_1) ∧ w73.cell? ⟨gb145, 2, none⟩ = some (.int .i64 x146002_1) ∧ w73.cell? ⟨gb154, 0, none⟩ = some (.int .i64 t149) ∧ w73.cell? ⟨gb154, 1, none⟩ = some (.string t150) ∧ w73.cell? ⟨gb154, 2, none⟩ = some (.int .i64 t151) ∧ w73.cell? (ad155.add ((x1_1).toNat * 4)) = some (.int .i64 ((rd_T38 l0_0 x1_1).f0)) ∧ w73.cell? ⟨(ad155.add ((x1_1).toNat * 4)).block, (ad155.add ((x1_1).toNat * 4)).off + 1, none⟩ = some (.string ((rd_T38 l0_0 x1_1).f1)) ∧ w73.cell? ⟨(ad155.add ((x1_1).toNat * 4)).block, (ad155.add ((x1_1).toNat * 4)).off + 2, none⟩ = some (.int .i64 ((rd_T38 l0_0 x1_1).f2)) ∧ w73.cell? ⟨(ad155.add ((x1_1).toNat * 4)).block, (ad155.add ((x1_1).toNat * 4)).off + 3, none⟩ = some (.int .i64 ((rd_T38 l0_0 x1_1).f3)) := hS_
           refine norm_ (a' := ?_) ?_ ?_
           rotate_left
           ·simp only [putAll, Act.put, List.setIfInBounds_toArray, List.set_cons_zero, List.set_cons_succ]
            rfl
           refine one_ (i := 13) (N := none) #[true, true, true, true, true, true, true, true, true, true, true, true, true, true, false] rfl rfl (one_of HT_.out (by kernel_rfl)) (by decide) (fun K hK => ?_)
           have hs74 : w73.cell? ⟨gb160, 0, none⟩ = some (.int .i64 0) := (blk_cell BK160.out 0).trans rfl
           have hfs74 := blk_frozen BK160.out 0
           have hns74_0 := NB138_160.out
           have hns74_1 := NB139_160.out
           have hns74_2 := NB145_160.out
           have hns74_3 := NB154_160.out
           have hms74_0 := NB160_138.out
           have hms74_1 := NB160_139.out
           have hms74_2 := NB160_145.out
           have hms74_3 := NB160_154.out
           have hs75 : w73.cell? ⟨gb160, 1, none⟩ = some (.string (⟨#[]⟩ : ByteArray)) := (blk_cell BK160.out 1).trans rfl
           have hfs75 := blk_frozen BK160.out 1
           have hns75_0 := NB138_160.out
           have hns75_1 := NB139_160.out
           have hns75_2 := NB145_160.out
           have hns75_3 := NB154_160.out
           have hms75_0 := NB160_138.out
           have hms75_1 := NB160_139.out
           have hms75_2 := NB160_145.out
           have hms75_3 := NB160_154.out
           have hs76 : w73.cell? ⟨gb160, 2, none⟩ = some (.int .i64 0) := (blk_cell BK160.out 2).trans rfl
           have hfs76 := blk_frozen BK160.out 2
           have hns76_0 := NB138_160.out
           have hns76_1 := NB139_160.out
           have hns76_2 := NB145_160.out
           have hns76_3 := NB154_160.out
           have hms76_0 := NB160_138.out
           have hms76_1 := NB160_139.out
           have hms76_2 := NB160_145.out
           have hms76_3 := NB160_154.out
           refine skip_ (w1 := ?_) (by rfl) rfl ?_ ?_
           rotate_left
           ·go_simp
            rfl
           refine hK.out _ _ ⟨((cell_far (p := ⟨gb160, _, none⟩) NB138_160.out _).trans (((cell_far (p := ⟨gb160, _, none⟩) NB138_160.out _).trans (((cell_far (p := ⟨gb160, _, none⟩) NB138_160.out _).trans (hHeld.1)))))), ((cell_far (p := ⟨gb160, _, none⟩) NB138_160.out _).trans (((cell_far (p := ⟨gb160, _, none⟩) NB138_160.out _).trans (((cell_far (p := ⟨gb160, _, none⟩) NB138_160.out _).trans (hHeld.2.1)))))), ((cell_far (p := ⟨gb160, _, none⟩) NB138_160.out _).trans (((cell_far (p := ⟨gb160, _, none⟩) NB138_160.out _).trans (((cell_far (p := ⟨gb160, _, none⟩) NB138_160.out _).trans (hHeld.2.2.1)))))), ((cell_far (p := ⟨gb160, _, none⟩) NB138_160.out _).trans (((cell_far (p := ⟨gb160, _, none⟩) NB138_160.out _).trans (((cell_far (p := ⟨gb160, _, none⟩) NB138_160.out _).trans (hHeld.2.2.2.1)))))), ((cell_far (p := ⟨gb160, _, none⟩) NB138_160.out _).trans (((cell_far (p := ⟨gb160, _, none⟩) NB138_160.out _).trans (((cell_far (p := ⟨gb160, _, none⟩) NB138_160.out _).trans (hHeld.2.2.2.2.1)))))), ((cell_far (p := ⟨gb160, _, none⟩) NB145_160.out _).trans (((cell_far (p := ⟨gb160, _, none⟩) NB145_160.out _).trans (((cell_far (p := ⟨gb160, _, none⟩) NB145_160.out _).trans (hHeld.2.2.2.2.2.1)))))), ((cell_far (p := ⟨gb160, _, none⟩) NB145_160.out _).trans (((cell_far (p := ⟨gb160, _, none⟩) NB145_160.out _).trans (((cell_far (p := ⟨gb160, _, none⟩) NB145_160.out _).trans (hHeld.2.2.2.2.2.2.1)))))), ((cell_far (p := ⟨gb160, _, none⟩) NB145_160.out _).trans (((cell_far (p := ⟨gb160, _, none⟩) NB145_160.out _).trans (((cell_far (p := ⟨gb160, _, none⟩) NB145_160.out _).trans (hHeld.2.2.2.2.2.2.2.1)))))), ((cell_far (p := ⟨gb160, _, none⟩) NB154_160.out _).trans (((cell_far (p := ⟨gb160, _, none⟩) NB154_160.out _).trans (((cell_far (p := ⟨gb160, _, none⟩) NB154_160.out _).trans (hHeld.2.2.2.2.2.2.2.2.1)))))), ((cell_far (p := ⟨gb160, _, none⟩) NB154_160.out _).trans (((cell_far (p := ⟨gb160, _, none⟩) NB154_160.out _).trans (((cell_far (p := ⟨gb160, _, none⟩) NB154_160.out _).trans (hHeld.2.2.2.2.2.2.2.2.2.1)))))), ((cell_far (p := ⟨gb160, _, none⟩) NB154_160.out _).trans (((cell_far (p := ⟨gb160, _, none⟩) NB154_160.out _).trans (((cell_far (p := ⟨gb160, _, none⟩) NB154_160.out _).trans (hHeld.2.2.2.2.2.2.2.2.2.2.1)))))), ((cell_far (p := ⟨gb160, _, none⟩) (by first | exact Nat.ne_of_lt (Nat.lt_of_lt_of_le (by have := World.block_lt_of_cell? _ _ hw155_0; first | rwa [add_block] at this | exact this) GW160.out) | (rw [add_block]; exact Nat.ne_of_lt (Nat.lt_of_lt_of_le (by have := World.block_lt_of_cell? _ _ hw155_0; first | rwa [add_block] at this | exact this) GW160.out)) | (show (Addr.add _ _).block ≠ _; rw [add_block]; exact Nat.ne_of_lt (Nat.lt_of_lt_of_le (by have := World.block_lt_of_cell? _ _ hw155_0; first | rwa [add_block] at this | exact this) GW160.out)) | (dsimp only; exact Nat.ne_of_lt (Nat.lt_of_lt_of_le (by have := World.block_lt_of_cell? _ _ hw155_0; first | rwa [add_block] at this | exact this) GW160.out))) _).trans (((cell_far (p := ⟨gb160, _, none⟩) (by first | exact Nat.ne_of_lt (Nat.lt_of_lt_of_le (by have := World.block_lt_of_cell? _ _ hw155_0; first | rwa [add_block] at this | exact this) GW160.out) | (rw [add_block]; exact Nat.ne_of_lt (Nat.lt_of_lt_of_le (by have := World.block_lt_of_cell? _ _ hw155_0; first | rwa [add_block] at this | exact this) GW160.out)) | (show (Addr.add _ _).block ≠ _; rw [add_block]; exact Nat.ne_of_lt (Nat.lt_of_lt_of_le (by have := World.block_lt_of_cell? _ _ hw155_0; first | rwa [add_block] at this | exact this) GW160.out)) | (dsimp only; exact Nat.ne_of_lt (Nat.lt_of_lt_of_le (by have := World.block_lt_of_cell? _ _ hw155_0; first | rwa [add_block] at this | exact this) GW160.out))) _).trans (((cell_far (p := ⟨gb160, _, none⟩) (by first | exact Nat.ne_of_lt (Nat.lt_of_lt_of_le (by have := World.block_lt_of_cell? _ _ hw155_0; first | rwa [add_block] at this | exact this) GW160.out) | (rw [add_block]; exact Nat.ne_of_lt (Nat.lt_of_lt_of_le (by have := World.block_lt_of_cell? _ _ hw155_0; first | rwa [add_block] at this | exact this) GW160.out)) | (show (Addr.add _ _).block ≠ _; rw [add_block]; exact Nat.ne_of_lt (Nat.lt_of_lt_of_le (by have := World.block_lt_of_cell? _ _ hw155_0; first | rwa [add_block] at this | exact this) GW160.out)) | (dsimp only; exact Nat.ne_of_lt (Nat.lt_of_lt_of_le (by have := World.block_lt_of_cell? _ _ hw155_0; first | rwa [add_block] at this | exact this) GW160.out))) _).trans (hHeld.2.2.2.2.2.2.2.2.2.2.2.1)))))), ((cell_far (p := ⟨gb160, _, none⟩) (by first | exact Nat.ne_of_lt (Nat.lt_of_lt_of_le (by have := World.block_lt_of_cell? _ _ hw155_1; first | rwa [add_block] at this | exact this) GW160.out) | (rw [add_block]; exact Nat.ne_of_lt (Nat.lt_of_lt_of_le (by have := World.block_lt_of_cell? _ _ hw155_1; first | rwa [add_block] at this | exact this) GW160.out)) | (show (Addr.add _ _).block ≠ _; rw [add_block]; exact Nat.ne_of_lt (Nat.lt_of_lt_of_le (by have := World.block_lt_of_cell? _ _ hw155_1; first | rwa [add_block] at this | exact this) GW160.out)) | (dsimp only; exact Nat.ne_of_lt (Nat.lt_of_lt_of_le (by have := World.block_lt_of_cell? _ _ hw155_1; first | rwa [add_block] at this | exact this) GW160.out))) _).trans (((cell_far (p := ⟨gb160, _, none⟩) (by first | exact Nat.ne_of_lt (Nat.lt_of_lt_of_le (by have := World.block_lt_of_cell? _ _ hw155_1; first | rwa [add_block] at this | exact this) GW160.out) | (rw [add_block]; exact Nat.ne_of_lt (Nat.lt_of_lt_of_le (by have := World.block_lt_of_cell? _ _ hw155_1; first | rwa [add_block] at this | exact this) GW160.out)) | (show (Addr.add _ _).block ≠ _; rw [add_block]; exact Nat.ne_of_lt (Nat.lt_of_lt_of_le (by have := World.block_lt_of_cell? _ _ hw155_1; first | rwa [add_block] at this | exact this) GW160.out)) | (dsimp only; exact Nat.ne_of_lt (Nat.lt_of_lt_of_le (by have := World.block_lt_of_cell? _ _ hw155_1; first | rwa [add_block] at this | exact this) GW160.out))) _).trans (((cell_far (p := ⟨gb160, _, none⟩) (by first | exact Nat.ne_of_lt (Nat.lt_of_lt_of_le (by have := World.block_lt_of_cell? _ _ hw155_1; first | rwa [add_block] at this | exact this) GW160.out) | (rw [add_block]; exact Nat.ne_of_lt (Nat.lt_of_lt_of_le (by have := World.block_lt_of_cell? _ _ hw155_1; first | rwa [add_block] at this | exact this) GW160.out)) | (show (Addr.add _ _).block ≠ _; rw [add_block]; exact Nat.ne_of_lt (Nat.lt_of_lt_of_le (by have := World.block_lt_of_cell? _ _ hw155_1; first | rwa [add_block] at this | exact this) GW160.out)) | (dsimp only; exact Nat.ne_of_lt (Nat.lt_of_lt_of_le (by have := World.block_lt_of_cell? _ _ hw155_1; first | rwa [add_block] at this | exact this) GW160.out))) _).trans (hHeld.2.2.2.2.2.2.2.2.2.2.2.2.1)))))), ((cell_far (p := ⟨gb160, _, none⟩) (by first | exact Nat.ne_of_lt (Nat.lt_of_lt_of_le (by have := World.block_lt_of_cell? _ _ hw155_2; first | rwa [add_block] at this | exact this) GW160.out) | (rw [add_block]; exact Nat.ne_of_lt (Nat.lt_of_lt_of_le (by have := World.block_lt_of_cell? _ _ hw155_2; first | rwa [add_block] at this | exact this) GW160.out)) | (show (Addr.add _ _).block ≠ _; rw [add_block]; exact Nat.ne_of_lt (Nat.lt_of_lt_of_le (by have := World.block_lt_of_cell? _ _ hw155_2; first | rwa [add_block] at this | exact this) GW160.out)) | (dsimp only; exact Nat.ne_of_lt (Nat.lt_of_lt_of_le (by have := World.block_lt_of_cell? _ _ hw155_2; first | rwa [add_block] at this | exact this) GW160.out))) _).trans (((cell_far (p := ⟨gb160, _, none⟩) (by first | exact Nat.ne_of_lt (Nat.lt_of_lt_of_le (by have := World.block_lt_of_cell? _ _ hw155_2; first | rwa [add_block] at this | exact this) GW160.out) | (rw [add_block]; exact Nat.ne_of_lt (Nat.lt_of_lt_of_le (by have := World.block_lt_of_cell? _ _ hw155_2; first | rwa [add_block] at this | exact this) GW160.out)) | (show (Addr.add _ _).block ≠ _; rw [add_block]; exact Nat.ne_of_lt (Nat.lt_of_lt_of_le (by have := World.block_lt_of_cell? _ _ hw155_2; first | rwa [add_block] at this | exact this) GW160.out)) | (dsimp only; exact Nat.ne_of_lt (Nat.lt_of_lt_of_le (by have := World.block_lt_of_cell? _ _ hw155_2; first | rwa [add_block] at this | exact this) GW160.out))) _).trans (((cell_far (p := ⟨gb160, _, none⟩) (by first | exact Nat.ne_of_lt (Nat.lt_of_lt_of_le (by have := World.block_lt_of_cell? _ _ hw155_2; first | rwa [add_block] at this | exact this) GW160.out) | (rw [add_block]; exact Nat.ne_of_lt (Nat.lt_of_lt_of_le (by have := World.block_lt_of_cell? _ _ hw155_2; first | rwa [add_block] at this | exact this) GW160.out)) | (show (Addr.add _ _).block ≠ _; rw [add_block]; exact Nat.ne_of_lt (Nat.lt_of_lt_of_le (by have := World.block_lt_of_cell? _ _ hw155_2; first | rwa [add_block] at this | exact this) GW160.out)) | (dsimp only; exact Nat.ne_of_lt (Nat.lt_of_lt_of_le (by have := World.block_lt_of_cell? _ _ hw155_2; first | rwa [add_block] at this | exact this) GW160.out))) _).trans (hHeld.2.2.2.2.2.2.2.2.2.2.2.2.2.1)))))), ((cell_far (p := ⟨gb160, _, none⟩) (by first | exact Nat.ne_of_lt (Nat.lt_of_lt_of_le (by have := World.block_lt_of_cell? _ _ hw155_3; first | rwa [add_block] at this | exact this) GW160.out) | (rw [add_block]; exact Nat.ne_of_lt (Nat.lt_of_lt_of_le (by have := World.block_lt_of_cell? _ _ hw155_3; first | rwa [add_block] at this | exact this) GW160.out)) | (show (Addr.add _ _).block ≠ _; rw [add_block]; exact Nat.ne_of_lt (Nat.lt_of_lt_of_le (by have := World.block_lt_of_cell? _ _ hw155_3; first | rwa [add_block] at this | exact this) GW160.out)) | (dsimp only; exact Nat.ne_of_lt (Nat.lt_of_lt_of_le (by have := World.block_lt_of_cell? _ _ hw155_3; first | rwa [add_block] at this | exact this) GW160.out))) _).trans (((cell_far (p := ⟨gb160, _, none⟩) (by first | exact Nat.ne_of_lt (Nat.lt_of_lt_of_le (by have := World.block_lt_of_cell? _ _ hw155_3; first | rwa [add_block] at this | exact this) GW160.out) | (rw [add_block]; exact Nat.ne_of_lt (Nat.lt_of_lt_of_le (by have := World.block_lt_of_cell? _ _ hw155_3; first | rwa [add_block] at this | exact this) GW160.out)) | (show (Addr.add _ _).block ≠ _; rw [add_block]; exact Nat.ne_of_lt (Nat.lt_of_lt_of_le (by have := World.block_lt_of_cell? _ _ hw155_3; first | rwa [add_block] at this | exact this) GW160.out)) | (dsimp only; exact Nat.ne_of_lt (Nat.lt_of_lt_of_le (by have := World.block_lt_of_cell? _ _ hw155_3; first | rwa [add_block] at this | exact this) GW160.out))) _).trans (((cell_far (p := ⟨gb160, _, none⟩) (by first | exact Nat.ne_of_lt (Nat.lt_of_lt_of_le (by have := World.block_lt_of_cell? _ _ hw155_3; first | rwa [add_block] at this | exact this) GW160.out) | (rw [add_block]; exact Nat.ne_of_lt (Nat.lt_of_lt_of_le (by have := World.block_lt_of_cell? _ _ hw155_3; first | rwa [add_block] at this | exact this) GW160.out)) | (show (Addr.add _ _).block ≠ _; rw [add_block]; exact Nat.ne_of_lt (Nat.lt_of_lt_of_le (by have := World.block_lt_of_cell? _ _ hw155_3; first | rwa [add_block] at this | exact this) GW160.out)) | (dsimp only; exact Nat.ne_of_lt (Nat.lt_of_lt_of_le (by have := World.block_lt_of_cell? _ _ hw155_3; first | rwa [add_block] at this | exact this) GW160.out))) _).trans (hHeld.2.2.2.2.2.2.2.2.2.2.2.2.2.2))))))⟩ (fun hHeld => ?_)
           clear hK K
           refine pure_ (i := 14) (N := some 15) (v := ?_) (a' := ?_) #[true, true, true, true, true, true, true, true, true, true, true, true, true, true, true] rfl rfl (any_of HT_.out (by kernel_rfl)) (fun _ _ _ h => h) (Or.inl ⟨by rfl, ?_⟩) ?_ ?_
           rotate_left
           ·intro w'
            go_simp
            with_reducible rfl
           rotate_left
           ·simp only [Act.put, List.setIfInBounds_toArray, List.set_cons_zero, List.set_cons_succ, i64_w, i32_w]
            rfl
           refine done_ (done_of HT_.out (by kernel_rfl)) ?_
           have hnb77 := NB139_145.out
           have hnc77 := NB145_139.out
           have hnb78 := NB139_160.out
           have hnc78 := NB160_139.out
           have hcz79_0 : w73.cell? ⟨gb139, 0, none⟩ = some (.int .i64 x140000_1) := (blk_cell BK139.out 0).trans rfl
           have hcz79_1 : w73.cell? ⟨gb139, 1, none⟩ = some (.string x140001_1) := (blk_cell BK139.out 1).trans rfl
           have hcz79_2 : w73.cell? ⟨gb139, 2, none⟩ = some (.int .i64 x140002_1) := (blk_cell BK139.out 2).trans rfl
           have hfz79_0 := blk_frozen BK139.out 0
           have hfz79_1 := blk_frozen BK139.out 1
           have hfz79_2 := blk_frozen BK139.out 2
           try go_wp2
           refine bodyPost_ret (results_ctt rfl _ _ gb139 24 #[.int .i64 0, .string (⟨#[]⟩ : ByteArray), .int .i64 0] (0, 0) _ rfl (by (with_reducible repeat(first|apply bN|apply bD)); refine blk_put (cs := #[.int .i64 0, .string (⟨#[]⟩ : ByteArray), .int .i64 x140002_1]) ?_ 2 _ rfl; (with_reducible repeat(first|apply bN|apply bD)); refine blk_put (cs := #[.int .i64 0, .string x140001_1, .int .i64 x140002_1]) ?_ 1 _ rfl; (with_reducible repeat(first|apply bN|apply bD)); refine blk_put (cs := #[.int .i64 x140000_1, .string x140001_1, .int .i64 x140002_1]) ?_ 0 _ rfl; (with_reducible repeat(first|apply bN|apply bD)); refine blk_far ?_ NB139_160.out _; (with_reducible repeat(first|apply bN|apply bD)); refine blk_far ?_ NB139_160.out _; (with_reducible repeat(first|apply bN|apply bD)); refine blk_far ?_ NB139_160.out _; (with_reducible repeat(first|apply bN|apply bD)); exact BK139.out) Try.underlying24 rfl (by kernel_rfl)) rfl ?_
           exact ⟨by first | rfl | (simp [errW_none, errW_some] <;> rfl) | (simp [*, errW_none, errW_some] <;> rfl), by repeat (first|(with_reducible first | exact HB.out | apply below_alloc | apply pw_below_drewN | apply below_drew1 | refine below_set ?_ GE138.out | refine below_set ?_ GE139.out | refine below_set ?_ GE145.out | refine below_set ?_ GE154.out | refine below_set ?_ GE160.out) | exact HB.out)⟩
         ·rw [if_neg c33] at H
          exact absurd H (by simp)
        ·rw [if_neg c32] at H
         exact absurd H (by simp)
       ·rw [if_neg c31] at H
        have c31b0 : (t153 == 0) = false := beq_eq_false_iff_ne.mpr c31
        have c31b1 : (t153 != 0) = true := bne_iff_ne.mpr c31
        simp only [Option.some.injEq, Prod.mk.injEq] at H
        obtain ⟨rfl, rfl, rfl, rfl, rfl⟩ := H
        have hnb80 := NB138_139.out
        have hnc80 := NB139_138.out
        have hnb81 := NB138_145.out
        have hnc81 := NB145_138.out
        have hcz82_0 : wc.cell? ⟨gb138, 0, none⟩ = some (.slice A0_0 l0_0.length c0_0) := (blk_cell BK138.out 0).trans rfl
        have hcz82_1 : wc.cell? ⟨gb138, 1, none⟩ = some (.slice A0_1 l0_1.length c0_1) := (blk_cell BK138.out 1).trans rfl
        have hcz82_2 : wc.cell? ⟨gb138, 2, none⟩ = some (.int .i64 a0_2) := (blk_cell BK138.out 2).trans rfl
        have hcz82_3 : wc.cell? ⟨gb138, 3, none⟩ = some (.string a0_3) := (blk_cell BK138.out 3).trans rfl
        have hcz82_4 : wc.cell? ⟨gb138, 4, none⟩ = some (.int .i64 a0_4) := (blk_cell BK138.out 4).trans rfl
        have hfz82_0 := blk_frozen BK138.out 0
        have hfz82_1 := blk_frozen BK138.out 1
        have hfz82_2 := blk_frozen BK138.out 2
        have hfz82_3 := blk_frozen BK138.out 3
        have hfz82_4 := blk_frozen BK138.out 4
        go_wp2_with (first | ((with_reducible refine gate_callee (f := 36) rfl ?_); refine goesL_ (some 56) rfl rfl Try.func36 (by kernel_rfl) rfl #[.agg #[.slice A0_0 l0_0.length c0_0, .slice A0_1 l0_1.length c0_1, .int .i64 a0_2, .string a0_3, .int .i64 a0_4], .int .i64 (wrap64 (x1_1 + 1)), .int .i64 a2] rfl (by (try simp only [List.map_toArray, List.map_cons, List.map_nil]); first | done | rfl | (simp only [List.length_drop, List.length_take]; rfl)) ?_; (with_reducible refine (HT.out _ _ l0_0 _ _ l0_1 a0_2 a0_3 a0_4 (wrap64 (x1_1 + 1)) a2 t149 t150 t151 t152 t153 _ ?side1 ?side2 ?side3 ?side4 A30.out).mono ?_); (case side1 => repeat (first | exact (Kd.C_below HR0_0.out HB.out)|(with_reducible refine Kd.C_alloc ?_ _)|(with_reducible refine Kd.C_drewN ?_ _)|(with_reducible refine Kd.C_drew ?_))); (case side2 => exact HC0_0.out); (case side3 => repeat (first | exact (Kd.C_below HR0_1.out HB.out)|(with_reducible refine Kd.C_alloc ?_ _)|(with_reducible refine Kd.C_drewN ?_ _)|(with_reducible refine Kd.C_drew ?_))); (case side4 => exact HC0_1.out); rintro e w83 ⟨rfl, hb⟩; refine ⟨_, rfl, ?_⟩; have n0_ := Aside0.mk (blk_below (by (with_reducible repeat(first|apply bN|apply bD)); exact BK138.out) hb); have n1_ := Aside0.mk (blk_below (by (with_reducible repeat(first|apply bN|apply bD)); exact BK139.out) hb); have n2_ := Aside0.mk (blk_below (by (with_reducible repeat(first|apply bN|apply bD)); exact BK145.out) hb); have n3_ := Aside0.mk (below_step (by repeat (first|(with_reducible first | exact HB.out | apply below_alloc | apply pw_below_drewN | apply below_drew1 | refine below_set ?_ GE138.out | refine below_set ?_ GE139.out | refine below_set ?_ GE145.out) | exact HB.out)) hb); clear BK138; clear BK139; clear BK145; clear HB; have BK138 := n0_; have BK139 := n1_; have BK145 := n2_; have HB := n3_; clear n0_ n1_ n2_ n3_; (try clear hb); (try clear hb2); (try clear hk); (try clear hi)) | ((with_reducible refine gate_dst (N := 11) rfl ?_); refine box_event ?hg (N := 11) ?hd (cs := #[.int .i64 0, .string (⟨#[]⟩ : ByteArray), .int .i64 0]) (t := 24) ?hr ?_; (case hd => rfl); (case hg => rfl); (case hr => first | (go_simp; done) | (go_simp; rfl)); intro gb154 hg w84 hbox hb; have n0_ := Aside0.mk (blk_below (by (with_reducible repeat(first|apply bN|apply bD)); exact BK138.out) hb); have n1_ := Aside0.mk (blk_below (by (with_reducible repeat(first|apply bN|apply bD)); exact BK139.out) hb); have n2_ := Aside0.mk (blk_below (by (with_reducible repeat(first|apply bN|apply bD)); exact BK145.out) hb); have n3_ := Aside0.mk (below_step (by repeat (first|(with_reducible first | exact HB.out | apply below_alloc | apply pw_below_drewN | apply below_drew1 | refine below_set ?_ GE138.out | refine below_set ?_ GE139.out | refine below_set ?_ GE145.out) | exact HB.out)) hb); have n4_ := Aside0.mk (hbox); have n5_ := Aside0.mk ((by rw [hg]; exact (below_size (by repeat (first|(with_reducible first | exact HB.out | apply below_alloc | apply pw_below_drewN | apply below_drew1 | refine below_set ?_ GE138.out | refine below_set ?_ GE139.out | refine below_set ?_ GE145.out) | exact HB.out))) : w.heap.size ≤ gb154)); have n6_ := n5_; have n7_ := Aside0.mk ((by rw [hg]; exact Nat.ne_of_lt (blk_lt (by (with_reducible repeat(first|apply bN|apply bD)); exact BK138.out)) : gb138 ≠ gb154)); have n8_ := Aside0.mk n7_.out.symm; have n9_ := Aside0.mk ((by rw [hg]; exact Nat.ne_of_lt (blk_lt (by (with_reducible repeat(first|apply bN|apply bD)); exact BK139.out)) : gb139 ≠ gb154)); have n10_ := Aside0.mk n9_.out.symm; have n11_ := Aside0.mk ((by rw [hg]; exact Nat.ne_of_lt (blk_lt (by (with_reducible repeat(first|apply bN|apply bD)); exact BK145.out)) : gb145 ≠ gb154)); have n12_ := Aside0.mk n11_.out.symm; clear BK138; clear BK139; clear BK145; clear HB; have BK138 := n0_; have BK139 := n1_; have BK145 := n2_; have HB := n3_; have BK154 := n4_; have GW154 := n5_; have GE154 := n6_; have NB138_154 := n7_; have NB154_138 := n8_; have NB139_154 := n9_; have NB154_139 := n10_; have NB145_154 := n11_; have NB154_145 := n12_; clear n0_ n1_ n2_ n3_ n4_ n5_ n6_ n7_ n8_ n9_ n10_ n11_ n12_; clear hb hbox hg; have hnb85 := NB154_138.out; have hnc85 := NB138_154.out; have hnb86 := NB154_139.out; have hnc86 := NB139_154.out; have hnb87 := NB154_145.out; have hnc87 := NB145_154.out; have hcz88_0 : w84.cell? ⟨gb154, 0, none⟩ = some (.int .i64 0) := (blk_cell BK154.out 0).trans rfl; have hcz88_1 : w84.cell? ⟨gb154, 1, none⟩ = some (.string (⟨#[]⟩ : ByteArray)) := (blk_cell BK154.out 1).trans rfl; have hcz88_2 : w84.cell? ⟨gb154, 2, none⟩ = some (.int .i64 0) := (blk_cell BK154.out 2).trans rfl; have hfz88_0 := blk_frozen BK154.out 0; have hfz88_1 := blk_frozen BK154.out 1; have hfz88_2 := blk_frozen BK154.out 2; have hnb89 := NB139_145.out; have hnc89 := NB145_139.out; have hcz90_0 : w84.cell? ⟨gb139, 0, none⟩ = some (.int .i64 x140000_1) := (blk_cell BK139.out 0).trans rfl; have hcz90_1 : w84.cell? ⟨gb139, 1, none⟩ = some (.string x140001_1) := (blk_cell BK139.out 1).trans rfl; have hcz90_2 : w84.cell? ⟨gb139, 2, none⟩ = some (.int .i64 x140002_1) := (blk_cell BK139.out 2).trans rfl; have hfz90_0 := blk_frozen BK139.out 0; have hfz90_1 := blk_frozen BK139.out 1; have hfz90_2 := blk_frozen BK139.out 2))
        refine bodyPost_ret (results_ctt rfl _ _ gb139 24 #[.int .i64 0, .string (⟨#[]⟩ : ByteArray), .int .i64 0] (0, 0) _ rfl (by (with_reducible repeat(first|apply bN|apply bD)); refine blk_put (cs := #[.int .i64 0, .string (⟨#[]⟩ : ByteArray), .int .i64 x140002_1]) ?_ 2 _ rfl; (with_reducible repeat(first|apply bN|apply bD)); refine blk_put (cs := #[.int .i64 0, .string x140001_1, .int .i64 x140002_1]) ?_ 1 _ rfl; (with_reducible repeat(first|apply bN|apply bD)); refine blk_put (cs := #[.int .i64 x140000_1, .string x140001_1, .int .i64 x140002_1]) ?_ 0 _ rfl; (with_reducible repeat(first|apply bN|apply bD)); refine blk_far ?_ NB139_154.out _; (with_reducible repeat(first|apply bN|apply bD)); refine blk_far ?_ NB139_154.out _; (with_reducible repeat(first|apply bN|apply bD)); refine blk_far ?_ NB139_154.out _; (with_reducible repeat(first|apply bN|apply bD)); exact BK139.out) Try.underlying24 rfl (by kernel_rfl)) rfl ?_
        exact ⟨by first | rfl | (simp [errW_none, errW_some] <;> rfl) | (simp [*, errW_none, errW_some] <;> rfl), by repeat (first|(with_reducible first | exact HB.out | apply below_alloc | apply pw_below_drewN | apply below_drew1 | refine below_set ?_ GE138.out | refine below_set ?_ GE139.out | refine below_set ?_ GE145.out | refine below_set ?_ GE154.out) | exact HB.out)⟩
      ·replace c29 := Bool.eq_false_iff.mpr c29
       subst c29
       have H1 : (some (x146000_1, x146001_1, x146002_1, x1_1, 0)) = some (r1, r2, r3, r4, r5) := by rw [if_neg (show ¬ (false = true) by decide)] at H; exact H
       clear H
       have H := H1
       clear H1
       simp only [Option.some.injEq, Prod.mk.injEq] at H
       obtain ⟨rfl, rfl, rfl, rfl, rfl⟩ := H
       have hnb91 := NB145_138.out
       have hnc91 := NB138_145.out
       have hnb92 := NB145_139.out
       have hnc92 := NB139_145.out
       have hcz93_0 : wc.cell? ⟨gb145, 0, none⟩ = some (.int .i64 x146000_1) := (blk_cell BK145.out 0).trans rfl
       have hcz93_1 : wc.cell? ⟨gb145, 1, none⟩ = some (.string x146001_1) := (blk_cell BK145.out 1).trans rfl
       have hcz93_2 : wc.cell? ⟨gb145, 2, none⟩ = some (.int .i64 x146002_1) := (blk_cell BK145.out 2).trans rfl
       have hfz93_0 := blk_frozen BK145.out 0
       have hfz93_1 := blk_frozen BK145.out 1
       have hfz93_2 := blk_frozen BK145.out 2
       have hnb94 := NB139_138.out
       have hnc94 := NB138_139.out
       have hcz95_0 : wc.cell? ⟨gb139, 0, none⟩ = some (.int .i64 x140000_1) := (blk_cell BK139.out 0).trans rfl
       have hcz95_1 : wc.cell? ⟨gb139, 1, none⟩ = some (.string x140001_1) := (blk_cell BK139.out 1).trans rfl
       have hcz95_2 : wc.cell? ⟨gb139, 2, none⟩ = some (.int .i64 x140002_1) := (blk_cell BK139.out 2).trans rfl
       have hfz95_0 := blk_frozen BK139.out 0
       have hfz95_1 := blk_frozen BK139.out 1
       have hfz95_2 := blk_frozen BK139.out 2
       go_wp2
       refine bodyPost_ret (results_ctt rfl _ _ gb139 24 #[.int .i64 x146000_1, .string x146001_1, .int .i64 x146002_1] (0, 0) _ rfl (by (with_reducible repeat(first|apply bN|apply bD)); refine blk_put (cs := #[.int .i64 x146000_1, .string x146001_1, .int .i64 x140002_1]) ?_ 2 _ rfl; (with_reducible repeat(first|apply bN|apply bD)); refine blk_put (cs := #[.int .i64 x146000_1, .string x140001_1, .int .i64 x140002_1]) ?_ 1 _ rfl; (with_reducible repeat(first|apply bN|apply bD)); refine blk_put (cs := #[.int .i64 x140000_1, .string x140001_1, .int .i64 x140002_1]) ?_ 0 _ rfl; (with_reducible repeat(first|apply bN|apply bD)); exact BK139.out) Try.underlying24 rfl (by kernel_rfl)) rfl ?_
       exact ⟨by first | rfl | (simp [errW_none, errW_some] <;> rfl) | (simp [*, errW_none, errW_some] <;> rfl), by repeat (first|(with_reducible first | exact HB.out | apply below_alloc | apply pw_below_drewN | apply below_drew1 | refine below_set ?_ GE138.out | refine below_set ?_ GE139.out | refine below_set ?_ GE145.out) | exact HB.out)⟩
 ·rw [if_neg c5] at H
  have c5b0 : (t144 == 0) = false := beq_eq_false_iff_ne.mpr c5
  have c5b1 : (t144 != 0) = true := bne_iff_ne.mpr c5
  simp only [Option.some.injEq, Prod.mk.injEq] at H
  obtain ⟨rfl, rfl, rfl, rfl, rfl⟩ := H
  go_enter Try.func27, Try.ntmps27
  go_wp2_with (first | ((with_reducible refine gate_dst (N := 3) rfl ?_); refine box_event ?hg (N := 3) ?hd (cs := #[.slice A0_0 l0_0.length c0_0, .slice A0_1 l0_1.length c0_1, .int .i64 a0_2, .string a0_3, .int .i64 a0_4]) (t := 58) ?hr ?_; (case hd => rfl); (case hg => rfl); (case hr => first | (go_simp; done) | (go_simp; rfl)); intro gb138 hg w96 hbox hb; have n0_ := Aside0.mk (below_step (by repeat (first|(with_reducible first | exact HB.out | apply below_alloc | apply pw_below_drewN | apply below_drew1) | exact HB.out)) hb); have n1_ := Aside0.mk (hbox); have n2_ := Aside0.mk ((by rw [hg]; exact (below_size (by repeat (first|(with_reducible first | exact HB.out | apply below_alloc | apply pw_below_drewN | apply below_drew1) | exact HB.out))) : w.heap.size ≤ gb138)); have n3_ := n2_; clear HB; have HB := n0_; have BK138 := n1_; have GW138 := n2_; have GE138 := n3_; clear n0_ n1_ n2_ n3_; clear hb hbox hg) | ((with_reducible refine gate_dst (N := 6) rfl ?_); refine box_event ?hg (N := 6) ?hd (cs := #[.int .i64 0, .string (⟨#[]⟩ : ByteArray), .int .i64 0]) (t := 24) ?hr ?_; (case hd => rfl); (case hg => rfl); (case hr => first | (go_simp; done) | (go_simp; rfl)); intro gb139 hg w97 hbox hb; have n0_ := Aside0.mk (blk_below (by (with_reducible repeat(first|apply bN|apply bD)); exact BK138.out) hb); have n1_ := Aside0.mk (below_step (by repeat (first|(with_reducible first | exact HB.out | apply below_alloc | apply pw_below_drewN | apply below_drew1 | refine below_set ?_ GE138.out) | exact HB.out)) hb); have n2_ := Aside0.mk (hbox); have n3_ := Aside0.mk ((by rw [hg]; exact (below_size (by repeat (first|(with_reducible first | exact HB.out | apply below_alloc | apply pw_below_drewN | apply below_drew1 | refine below_set ?_ GE138.out) | exact HB.out))) : w.heap.size ≤ gb139)); have n4_ := n3_; have n5_ := Aside0.mk ((by rw [hg]; exact Nat.ne_of_lt (blk_lt (by (with_reducible repeat(first|apply bN|apply bD)); exact BK138.out)) : gb138 ≠ gb139)); have n6_ := Aside0.mk n5_.out.symm; clear BK138; clear HB; have BK138 := n0_; have HB := n1_; have BK139 := n2_; have GW139 := n3_; have GE139 := n4_; have NB138_139 := n5_; have NB139_138 := n6_; clear n0_ n1_ n2_ n3_ n4_ n5_ n6_; clear hb hbox hg; have hnb98 := NB138_139.out; have hnc98 := NB139_138.out; have hcz99_0 : w97.cell? ⟨gb138, 0, none⟩ = some (.slice A0_0 l0_0.length c0_0) := (blk_cell BK138.out 0).trans rfl; have hcz99_1 : w97.cell? ⟨gb138, 1, none⟩ = some (.slice A0_1 l0_1.length c0_1) := (blk_cell BK138.out 1).trans rfl; have hcz99_2 : w97.cell? ⟨gb138, 2, none⟩ = some (.int .i64 a0_2) := (blk_cell BK138.out 2).trans rfl; have hcz99_3 : w97.cell? ⟨gb138, 3, none⟩ = some (.string a0_3) := (blk_cell BK138.out 3).trans rfl; have hcz99_4 : w97.cell? ⟨gb138, 4, none⟩ = some (.int .i64 a0_4) := (blk_cell BK138.out 4).trans rfl; have hfz99_0 := blk_frozen BK138.out 0; have hfz99_1 := blk_frozen BK138.out 1; have hfz99_2 := blk_frozen BK138.out 2; have hfz99_3 := blk_frozen BK138.out 3; have hfz99_4 := blk_frozen BK138.out 4) | ((with_reducible refine gate_callee (f := 36) rfl ?_); refine goesL_ (some 20) rfl rfl Try.func36 (by kernel_rfl) rfl #[.agg #[.slice A0_0 l0_0.length c0_0, .slice A0_1 l0_1.length c0_1, .int .i64 a0_2, .string a0_3, .int .i64 a0_4], .int .i64 a1, .int .i64 a2] rfl (by (try simp only [List.map_toArray, List.map_cons, List.map_nil]); first | done | rfl | (simp only [List.length_drop, List.length_take]; rfl)) ?_; (with_reducible refine (HT.out _ _ l0_0 _ _ l0_1 a0_2 a0_3 a0_4 a1 a2 t140 t141 t142 t143 t144 _ ?side1 ?side2 ?side3 ?side4 A4.out).mono ?_); (case side1 => repeat (first | exact (Kd.C_below HR0_0.out HB.out)|(with_reducible refine Kd.C_alloc ?_ _)|(with_reducible refine Kd.C_drewN ?_ _)|(with_reducible refine Kd.C_drew ?_))); (case side2 => exact HC0_0.out); (case side3 => repeat (first | exact (Kd.C_below HR0_1.out HB.out)|(with_reducible refine Kd.C_alloc ?_ _)|(with_reducible refine Kd.C_drewN ?_ _)|(with_reducible refine Kd.C_drew ?_))); (case side4 => exact HC0_1.out); rintro e w100 ⟨rfl, hb⟩; refine ⟨_, rfl, ?_⟩; have n0_ := Aside0.mk (blk_below (by (with_reducible repeat(first|apply bN|apply bD)); exact BK138.out) hb); have n1_ := Aside0.mk (blk_below (by (with_reducible repeat(first|apply bN|apply bD)); exact BK139.out) hb); have n2_ := Aside0.mk (below_step (by repeat (first|(with_reducible first | exact HB.out | apply below_alloc | apply pw_below_drewN | apply below_drew1 | refine below_set ?_ GE138.out | refine below_set ?_ GE139.out) | exact HB.out)) hb); clear BK138; clear BK139; clear HB; have BK138 := n0_; have BK139 := n1_; have HB := n2_; clear n0_ n1_ n2_; (try clear hb); (try clear hb2); (try clear hk); (try clear hi)) | ((with_reducible refine gate_dst (N := 9) rfl ?_); refine box_event ?hg (N := 9) ?hd (cs := #[.int .i64 0, .string (⟨#[]⟩ : ByteArray), .int .i64 0]) (t := 24) ?hr ?_; (case hd => rfl); (case hg => rfl); (case hr => first | (go_simp; done) | (go_simp; rfl)); intro gb145 hg w101 hbox hb; have n0_ := Aside0.mk (blk_below (by (with_reducible repeat(first|apply bN|apply bD)); exact BK138.out) hb); have n1_ := Aside0.mk (blk_below (by (with_reducible repeat(first|apply bN|apply bD)); exact BK139.out) hb); have n2_ := Aside0.mk (below_step (by repeat (first|(with_reducible first | exact HB.out | apply below_alloc | apply pw_below_drewN | apply below_drew1 | refine below_set ?_ GE138.out | refine below_set ?_ GE139.out) | exact HB.out)) hb); have n3_ := Aside0.mk (hbox); have n4_ := Aside0.mk ((by rw [hg]; exact (below_size (by repeat (first|(with_reducible first | exact HB.out | apply below_alloc | apply pw_below_drewN | apply below_drew1 | refine below_set ?_ GE138.out | refine below_set ?_ GE139.out) | exact HB.out))) : w.heap.size ≤ gb145)); have n5_ := n4_; have n6_ := Aside0.mk ((by rw [hg]; exact Nat.ne_of_lt (blk_lt (by (with_reducible repeat(first|apply bN|apply bD)); exact BK138.out)) : gb138 ≠ gb145)); have n7_ := Aside0.mk n6_.out.symm; have n8_ := Aside0.mk ((by rw [hg]; exact Nat.ne_of_lt (blk_lt (by (with_reducible repeat(first|apply bN|apply bD)); exact BK139.out)) : gb139 ≠ gb145)); have n9_ := Aside0.mk n8_.out.symm; clear BK138; clear BK139; clear HB; have BK138 := n0_; have BK139 := n1_; have HB := n2_; have BK145 := n3_; have GW145 := n4_; have GE145 := n5_; have NB138_145 := n6_; have NB145_138 := n7_; have NB139_145 := n8_; have NB145_139 := n9_; clear n0_ n1_ n2_ n3_ n4_ n5_ n6_ n7_ n8_ n9_; clear hb hbox hg; have hnb102 := NB145_138.out; have hnc102 := NB138_145.out; have hnb103 := NB145_139.out; have hnc103 := NB139_145.out; have hcz104_0 : w101.cell? ⟨gb145, 0, none⟩ = some (.int .i64 0) := (blk_cell BK145.out 0).trans rfl; have hcz104_1 : w101.cell? ⟨gb145, 1, none⟩ = some (.string (⟨#[]⟩ : ByteArray)) := (blk_cell BK145.out 1).trans rfl; have hcz104_2 : w101.cell? ⟨gb145, 2, none⟩ = some (.int .i64 0) := (blk_cell BK145.out 2).trans rfl; have hfz104_0 := blk_frozen BK145.out 0; have hfz104_1 := blk_frozen BK145.out 1; have hfz104_2 := blk_frozen BK145.out 2; have hcz105_0 : w101.cell? ⟨gb139, 0, none⟩ = some (.int .i64 0) := (blk_cell BK139.out 0).trans rfl; have hcz105_1 : w101.cell? ⟨gb139, 1, none⟩ = some (.string (⟨#[]⟩ : ByteArray)) := (blk_cell BK139.out 1).trans rfl; have hcz105_2 : w101.cell? ⟨gb139, 2, none⟩ = some (.int .i64 0) := (blk_cell BK139.out 2).trans rfl; have hfz105_0 := blk_frozen BK139.out 0; have hfz105_1 := blk_frozen BK139.out 1; have hfz105_2 := blk_frozen BK139.out 2))
  refine bodyPost_ret (results_ctt rfl _ _ gb139 24 #[.int .i64 0, .string (⟨#[]⟩ : ByteArray), .int .i64 0] (0, 0) _ rfl (by (with_reducible repeat(first|apply bN|apply bD)); refine blk_put (cs := #[.int .i64 0, .string (⟨#[]⟩ : ByteArray), .int .i64 0]) ?_ 2 _ rfl; (with_reducible repeat(first|apply bN|apply bD)); refine blk_put (cs := #[.int .i64 0, .string (⟨#[]⟩ : ByteArray), .int .i64 0]) ?_ 1 _ rfl; (with_reducible repeat(first|apply bN|apply bD)); refine blk_put (cs := #[.int .i64 0, .string (⟨#[]⟩ : ByteArray), .int .i64 0]) ?_ 0 _ rfl; (with_reducible repeat(first|apply bN|apply bD)); refine blk_far ?_ NB139_145.out _; (with_reducible repeat(first|apply bN|apply bD)); refine blk_far ?_ NB139_145.out _; (with_reducible repeat(first|apply bN|apply bD)); refine blk_far ?_ NB139_145.out _; (with_reducible repeat(first|apply bN|apply bD)); exact BK139.out) Try.underlying24 rfl (by kernel_rfl)) rfl ?_
  exact ⟨by first | rfl | (simp [errW_none, errW_some] <;> rfl) | (simp [*, errW_none, errW_some] <;> rfl), by repeat (first|(with_reducible first | exact HB.out | apply below_alloc | apply pw_below_drewN | apply below_drew1 | refine below_set ?_ GE138.out | refine below_set ?_ GE139.out | refine below_set ?_ GE145.out) | exact HB.out)⟩
end Go.Proofs.Ytpinoobgnnlccaa.A
