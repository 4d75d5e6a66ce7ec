/- Of the proof of AsmexprEvals: Ax19, RefEq. Conditions: those of each theorem. -/
import Derived.Test.YtpinoobgnnlccaaEAx0
import Derived.Test.YtpinoobgnnlccaaERSpec
namespace Go.Proofs.Ytpinoobgnnlccaa.A
open Go.RowKit Go.Proofs.YtpinoobgnnlccaaW.PrintWords Go.Proofs.YtpinoobgnnlccaaW.PrintLast Go.Proofs.YtpinoobgnnlccaaW.PrintMore
attribute [local go_sem] max2_int min2_int max_two min_two max_three min_three max_four min_four
set_option linter.unusedVariables false
set_option linter.unusedSimpArgs false
def emulatorref26_named.f (k : Nat) (a0 : ByteArray) (l1 : List (S44)) : Option (Int × ByteArray × Int) := (emulatorref26_Find.f k l1 a0).bind fun t211 => (if t211 ≥ 0 then (if 0 ≤ t211 then (if t211 < (l1.length : Int) then (if ((rd_T44 l1 t211).f1) ≥ 0 then (if ((rd_T44 l1 t211).f1) ≤ 3 then (some ((rd_T44 l1 t211).f1, (⟨#[]⟩ : ByteArray), Go.bits .and .i64 ((rd_T44 l1 t211).f2) 65535)) else (some (4, a0, 0))) else (some (4, a0, 0))) else (none)) else (none)) else (some (4, a0, 0)))
def emulatorref26_named.T3 : Bool × List (List Nat × List Nat) := (true, [([], []), ([], []), ([0, 1], [0, 1]), ([2], [2]), ([3], [3]), ([], []), ([], []), ([5, 6], [5, 6]), ([7], [7]), ([8], [8]), ([9], [9]), ([4, 10], [4, 10]), ([11, 0, 1, 2, 3, 4, 5, 6, 7, 8, 9, 10, 11], [11])])
def emulatorref26_named.B3 : List Nat := [0, 0, 3, 7, 15, 0, 0, 96, 224, 480, 992, 2047, 4095]
theorem emulatorref26_named.tab3 : rtab .any (opsOf Try.f51 3) = emulatorref26_named.T3 := by kernel_rfl
theorem emulatorref26_named.bits3 : waitsOk emulatorref26_named.T3.2 emulatorref26_named.B3 = true := by kernel_rfl
set_option maxHeartbeats 8000000 in
set_option maxRecDepth 100000 in
theorem emulatorref26_named.calls (k : Nat) (a0 : ByteArray) (A1 : Option Addr) (c1 : Nat) (l1 : List (S44)) (r1 : Int) (r2 : ByteArray) (r3 : Int) (w : World) (hr1 : Kd.C k44 w A1 l1.length l1) (hc1 : l1.length ≤ c1) (h : emulatorref26_named.f k a0 l1 = some (r1, r2, r3)) :
  Calls Try.prog 51 #[.string a0, .slice A1 l1.length c1] w fun e w' => e = .returned (.agg #[.int .i64 r1, .string r2, .int .i64 r3]) ∧ Below w.heap.size w w' := by
 have hu24 := Try.underlying24
 have HR1 := Aside0.mk hr1
 have HC1 := Aside0.mk hc1
 clear hr1 hc1
 have HB := Aside0.mk (Below.refl w.heap.size w)
 have H : ((emulatorref26_Find.f k l1 a0).bind fun t211 => (if t211 ≥ 0 then (if 0 ≤ t211 then (if t211 < (l1.length : Int) then (if ((rd_T44 l1 t211).f1) ≥ 0 then (if ((rd_T44 l1 t211).f1) ≤ 3 then (some ((rd_T44 l1 t211).f1, (⟨#[]⟩ : ByteArray), Go.bits .and .i64 ((rd_T44 l1 t211).f2) 65535)) else (some (4, a0, 0))) else (some (4, a0, 0))) else (none)) else (none)) else (some (4, a0, 0)))) = some (r1, r2, r3) := h
 clear h
 replace H := Option.bind_eq_some_iff.mp H
 obtain ⟨t211, A30, H⟩ := H
 replace H : (if t211 ≥ 0 then (if 0 ≤ t211 then (if t211 < (l1.length : Int) then (if ((rd_T44 l1 t211).f1) ≥ 0 then (if ((rd_T44 l1 t211).f1) ≤ 3 then (some ((rd_T44 l1 t211).f1, (⟨#[]⟩ : ByteArray), Go.bits .and .i64 ((rd_T44 l1 t211).f2) 65535)) else (some (4, a0, 0))) else (some (4, a0, 0))) else (none)) else (none)) else (some (4, a0, 0))) = some (r1, r2, r3) := H
 have A3 := Aside0.mk A30
 clear A30
 by_cases c4 : t211 ≥ 0
 ·rw [if_pos c4] at H
  have c4b0 : decide (0 ≤ t211) = true := decide_eq_true c4
  clear c4
  by_cases c5 : 0 ≤ t211
  ·rw [if_pos c5] at H
   have c5b0 : decide (0 ≤ t211) = true := decide_eq_true c5
   clear c5
   by_cases c6 : t211 < (l1.length : Int)
   ·rw [if_pos c6] at H
    have c6b0 : decide (t211 < (l1.length : Int)) = true := decide_eq_true c6
    clear c6
    by_cases c7 : ((rd_T44 l1 t211).f1) ≥ 0
    ·rw [if_pos c7] at H
     have c7b0 : decide (0 ≤ ((rd_T44 l1 t211).f1)) = true := decide_eq_true c7
     clear c7
     by_cases c8 : ((rd_T44 l1 t211).f1) ≤ 3
     ·rw [if_pos c8] at H
      have c8b0 : decide (((rd_T44 l1 t211).f1) ≤ 3) = true := decide_eq_true c8
      clear c8
      simp only [Option.some.injEq, Prod.mk.injEq] at H
      obtain ⟨rfl, rfl, rfl⟩ := H
      go_enter Try.func51, Try.ntmps51
      try go_wp2_with (first | ((with_reducible refine gate_dst (N := 4) rfl ?_); refine box_event ?hg (N := 4) ?hd (cs := #[.int .i64 0, .string (⟨#[]⟩ : ByteArray), .int .i64 0]) (t := 24) ?hr ?_; (case hd => rfl); (case hg => rfl); (case hr => first | (go_simp; done) | (go_simp; rfl)); intro gb210 hg w9 hbox hb; have n0_ := Aside0.mk (below_step (by repeat (first|(with_reducible first | exact HB.out | apply below_alloc | apply pw_below_drewN | apply below_drew1) | exact HB.out)) hb); have n1_ := Aside0.mk (hbox); have n2_ := Aside0.mk ((by rw [hg]; exact (below_size (by repeat (first|(with_reducible first | exact HB.out | apply below_alloc | apply pw_below_drewN | apply below_drew1) | exact HB.out))) : w.heap.size ≤ gb210)); have n3_ := n2_; clear HB; have HB := n0_; have BK210 := n1_; have GW210 := n2_; have GE210 := n3_; clear n0_ n1_ n2_ n3_; clear hb hbox hg) | ((with_reducible refine gate_callee (f := 15) rfl ?_); refine goesL_ (some 8) rfl rfl Try.func15 (by kernel_rfl) rfl #[.slice A1 l1.length c1, .string a0] rfl (by (try simp only [List.map_toArray, List.map_cons, List.map_nil]); first | done | rfl | (simp only [List.length_drop, List.length_take]; rfl)) ?_; (with_reducible refine (emulatorref26_Find.calls k _ _ l1 a0 t211 _ ?side1 ?side2 A3.out).mono ?_); (case side1 => repeat (first | exact (Kd.C_below HR1.out HB.out)|(with_reducible refine Kd.C_alloc ?_ _)|(with_reducible refine Kd.C_drewN ?_ _)|(with_reducible refine Kd.C_drew ?_))); (case side2 => exact HC1.out); rintro e w' ⟨rfl, ⟨nd, rfl⟩⟩; refine ⟨_, rfl, ?_⟩; (try (rw [drewN_self w9]; generalize hq_ : World.drewN w9 _ = w9; have n0_ : Aside0 (w9.heap[gb210]? = some (.cells #[.int .i64 0, .string (⟨#[]⟩ : ByteArray), .int .i64 0] 24 (0, 0))) := ⟨by rw [← hq_]; exact (by (with_reducible repeat(first|apply bN|apply bD)); exact BK210.out)⟩; have n1_ : Aside0 (Below w.heap.size w w9) := ⟨by rw [← hq_]; exact (by repeat (first|(with_reducible first | exact HB.out | apply below_alloc | apply pw_below_drewN | apply below_drew1 | refine below_set ?_ GE210.out) | exact HB.out))⟩; clear BK210 HB hq_; have BK210 := n0_; have HB := n1_; clear n0_ n1_)); have p212 : 0 ≤ (t211 : Int) := of_decide_eq_true (by first|(with_reducible assumption) | assumption); have q212 : t211 < (l1.length : Int) := of_decide_eq_true (by first|(with_reducible assumption) | assumption); obtain ⟨ad212, e212, hx212_0, hx212_1, hx212_2, hx212_3⟩ := at_T44 HR1.out t211 p212 q212; cases e212; replace hx212_0 := (HB.out.cell (World.block_lt_of_cell? w _ hx212_0)).trans hx212_0; replace hx212_1 := (HB.out.cell (World.block_lt_of_cell? w _ hx212_1)).trans hx212_1; replace hx212_2 := (HB.out.cell (World.block_lt_of_cell? w _ hx212_2)).trans hx212_2; replace hx212_3 := (HB.out.cell (World.block_lt_of_cell? w _ hx212_3)).trans hx212_3; replace p212 := eq_true p212; replace q212 := eq_true q212; have p213 : 0 ≤ (t211 : Int) := of_decide_eq_true (by first|(with_reducible assumption) | assumption); have q213 : t211 < (l1.length : Int) := of_decide_eq_true (by first|(with_reducible assumption) | assumption); obtain ⟨ad213, e213, hx213_0, hx213_1, hx213_2, hx213_3⟩ := at_T44 HR1.out t211 p213 q213; obtain rfl : ad212 = ad213 := (by injection e213); replace hx213_0 := (HB.out.cell (World.block_lt_of_cell? w _ hx213_0)).trans hx213_0; replace hx213_1 := (HB.out.cell (World.block_lt_of_cell? w _ hx213_1)).trans hx213_1; replace hx213_2 := (HB.out.cell (World.block_lt_of_cell? w _ hx213_2)).trans hx213_2; replace hx213_3 := (HB.out.cell (World.block_lt_of_cell? w _ hx213_3)).trans hx213_3; replace p213 := eq_true p213; replace q213 := eq_true q213))
      have n0_ := Aside0.mk (blk_drew BK210.out)
      have n1_ := Aside0.mk (below_drew1 HB.out)
      clear BK210
      clear HB
      have BK210 := n0_
      have HB := n1_
      clear n0_ n1_
      have p214 : 0 ≤ (t211 : Int) := of_decide_eq_true (by first|(with_reducible assumption) | assumption)
      have q214 : t211 < (l1.length : Int) := of_decide_eq_true (by first|(with_reducible assumption) | assumption)
      obtain ⟨ad214, e214, hx214_0, hx214_1, hx214_2, hx214_3⟩ := at_T44 HR1.out t211 p214 q214
      have hw214_3 := hx214_3
      have hw214_2 := hx214_2
      have hw214_1 := hx214_1
      have hw214_0 := hx214_0
      obtain rfl : ad212 = ad214 := (by injection e214)
      replace hx214_0 := (HB.out.cell (World.block_lt_of_cell? w _ hx214_0)).trans hx214_0
      replace hx214_1 := (HB.out.cell (World.block_lt_of_cell? w _ hx214_1)).trans hx214_1
      replace hx214_2 := (HB.out.cell (World.block_lt_of_cell? w _ hx214_2)).trans hx214_2
      replace hx214_3 := (HB.out.cell (World.block_lt_of_cell? w _ hx214_3)).trans hx214_3
      replace p214 := eq_true p214
      replace q214 := eq_true q214
      have p215 : 0 ≤ (t211 : Int) := of_decide_eq_true (by first|(with_reducible assumption) | assumption)
      have q215 : t211 < (l1.length : Int) := of_decide_eq_true (by first|(with_reducible assumption) | assumption)
      obtain ⟨ad215, e215, hx215_0, hx215_1, hx215_2, hx215_3⟩ := at_T44 HR1.out t211 p215 q215
      have hw215_3 := hx215_3
      have hw215_2 := hx215_2
      have hw215_1 := hx215_1
      have hw215_0 := hx215_0
      obtain rfl : ad212 = ad215 := (by injection e215)
      replace hx215_0 := (HB.out.cell (World.block_lt_of_cell? w _ hx215_0)).trans hx215_0
      replace hx215_1 := (HB.out.cell (World.block_lt_of_cell? w _ hx215_1)).trans hx215_1
      replace hx215_2 := (HB.out.cell (World.block_lt_of_cell? w _ hx215_2)).trans hx215_2
      replace hx215_3 := (HB.out.cell (World.block_lt_of_cell? w _ hx215_3)).trans hx215_3
      replace p215 := eq_true p215
      replace q215 := eq_true q215
      refine start_ (n := 13) (S := fun w' => w'.cell? (ad212.add ((t211).toNat * 4)) = some (.string ((rd_T44 l1 t211).f0)) ∧ w'.cell? ⟨(ad212.add ((t211).toNat * 4)).block, (ad212.add ((t211).toNat * 4)).off + 1, none⟩ = some (.int .i64 ((rd_T44 l1 t211).f1)) ∧ w'.cell? ⟨(ad212.add ((t211).toNat * 4)).block, (ad212.add ((t211).toNat * 4)).off + 2, none⟩ = some (.int .i64 ((rd_T44 l1 t211).f2)) ∧ w'.cell? ⟨(ad212.add ((t211).toNat * 4)).block, (ad212.add ((t211).toNat * 4)).off + 3, none⟩ = some (.bool ((rd_T44 l1 t211).f3)) ∧ w'.cell? (ad212.add ((t211).toNat * 4)) = some (.string ((rd_T44 l1 t211).f0)) ∧ w'.cell? ⟨(ad212.add ((t211).toNat * 4)).block, (ad212.add ((t211).toNat * 4)).off + 1, none⟩ = some (.int .i64 ((rd_T44 l1 t211).f1)) ∧ w'.cell? ⟨(ad212.add ((t211).toNat * 4)).block, (ad212.add ((t211).toNat * 4)).off + 2, none⟩ = some (.int .i64 ((rd_T44 l1 t211).f2)) ∧ w'.cell? ⟨(ad212.add ((t211).toNat * 4)).block, (ad212.add ((t211).toNat * 4)).off + 3, none⟩ = some (.bool ((rd_T44 l1 t211).f3))) (ds := []) #[false, false, false, false, false, false, false, false, false, false, false, false, false] (by kernel_rfl) rfl rfl ⟨((HB.out.cell (World.block_lt_of_cell? w _ hw214_0)).trans hw214_0), ((HB.out.cell (World.block_lt_of_cell? w _ hw214_1)).trans hw214_1), ((HB.out.cell (World.block_lt_of_cell? w _ hw214_2)).trans hw214_2), ((HB.out.cell (World.block_lt_of_cell? w _ hw214_3)).trans hw214_3), ((HB.out.cell (World.block_lt_of_cell? w _ hw215_0)).trans hw215_0), ((HB.out.cell (World.block_lt_of_cell? w _ hw215_1)).trans hw215_1), ((HB.out.cell (World.block_lt_of_cell? w _ hw215_2)).trans hw215_2), ((HB.out.cell (World.block_lt_of_cell? w _ hw215_3)).trans hw215_3)⟩ (fun hHeld => ?_); refine with_tabW emulatorref26_named.tab3 emulatorref26_named.bits3 (fun HT_ HW_ => ?_)
      generalize w9.drew = w10 at BK210 HB hx214_0 hx214_1 hx214_2 hx214_3 hx215_0 hx215_1 hx215_2 hx215_3 hHeld ⊢
      refine pure_ (i := 0) (N := some 27) (v := ?_) (a' := ?_) #[true, false, false, false, false, false, false, false, false, false, false, false, false] rfl rfl (any_of HT_.out (by kernel_rfl)) (fun _ _ _ h => h) (Or.inl ⟨by rfl, ?_⟩) ?_ ?_
      rotate_left
      ·intro w'
       go_simp
       with_reducible rfl
      rotate_left
      ·simp only [Act.put, List.setIfInBounds_toArray, List.set_cons_zero, List.set_cons_succ, i64_w, i32_w]
       rfl
      refine pure_ (i := 1) (N := some 28) (v := ?_) (a' := ?_) #[true, true, false, false, false, false, false, false, false, false, false, false, false] rfl rfl (any_of HT_.out (by kernel_rfl)) (fun _ _ _ h => h) (Or.inl ⟨by rfl, ?_⟩) ?_ ?_
      rotate_left
      ·intro w'
       go_simp
       with_reducible rfl
      rotate_left
      ·simp only [Act.put, List.setIfInBounds_toArray, List.set_cons_zero, List.set_cons_succ, i64_w, i32_w]
       rfl
      refine pure_ (i := 2) (N := some 29) (v := ?_) (a' := ?_) #[true, true, true, false, false, false, false, false, false, false, false, false, false] rfl rfl (any_of HT_.out (by kernel_rfl)) (fun _ _ _ h => h) (Or.inl ⟨by rfl, ?_⟩) ?_ ?_
      rotate_left
      ·intro w'
       go_simp
       with_reducible rfl
      rotate_left
      ·simp only [Act.put, List.setIfInBounds_toArray, List.set_cons_zero, List.set_cons_succ, i64_w, i32_w]
       rfl
      refine pure_ (i := 3) (N := some 30) (v := ?_) (a' := ?_) #[true, true, true, true, false, false, false, false, false, false, false, false, false] rfl rfl (any_of HT_.out (by kernel_rfl)) (fun _ _ _ h => h) (Or.inl ⟨by rfl, ?_⟩) ?_ ?_
      rotate_left
      ·intro w'
       go_simp
       with_reducible rfl
      rotate_left
      ·simp only [Act.put, List.setIfInBounds_toArray, List.set_cons_zero, List.set_cons_succ, i64_w, i32_w]
       rfl
      refine pure_ (i := 5) (N := some 32) (v := ?_) (a' := ?_) #[true, true, true, true, false, true, false, false, false, false, false, false, false] rfl rfl (any_of HT_.out (by kernel_rfl)) (fun _ _ _ h => h) (Or.inl ⟨by rfl, ?_⟩) ?_ ?_
      rotate_left
      ·intro w'
       go_simp
       with_reducible rfl
      rotate_left
      ·simp only [Act.put, List.setIfInBounds_toArray, List.set_cons_zero, List.set_cons_succ, i64_w, i32_w]
       rfl
      refine pure_ (i := 6) (N := some 33) (v := ?_) (a' := ?_) #[true, true, true, true, false, true, true, false, false, false, false, false, false] rfl rfl (any_of HT_.out (by kernel_rfl)) (fun _ _ _ h => h) (Or.inl ⟨by rfl, ?_⟩) ?_ ?_
      rotate_left
      ·intro w'
       go_simp
       with_reducible rfl
      rotate_left
      ·simp only [Act.put, List.setIfInBounds_toArray, List.set_cons_zero, List.set_cons_succ, i64_w, i32_w]
       rfl
      refine pure_ (i := 7) (N := some 34) (v := ?_) (a' := ?_) #[true, true, true, true, false, true, true, true, false, false, false, false, false] rfl rfl (any_of HT_.out (by kernel_rfl)) (fun _ _ _ h => h) (Or.inl ⟨by rfl, ?_⟩) ?_ ?_
      rotate_left
      ·intro w'
       go_simp
       with_reducible rfl
      rotate_left
      ·simp only [Act.put, List.setIfInBounds_toArray, List.set_cons_zero, List.set_cons_succ, i64_w, i32_w]
       rfl
      refine pure_ (i := 8) (N := some 35) (v := ?_) (a' := ?_) #[true, true, true, true, false, true, true, true, true, false, false, false, false] rfl rfl (any_of HT_.out (by kernel_rfl)) (fun _ _ _ h => h) (Or.inl ⟨by rfl, ?_⟩) ?_ ?_
      rotate_left
      ·intro w'
       go_simp
       with_reducible rfl
      rotate_left
      ·simp only [Act.put, List.setIfInBounds_toArray, List.set_cons_zero, List.set_cons_succ, i64_w, i32_w]
       rfl
      refine take_ (i := 4) (N := some 31) (v := ?_) (a' := ?_) #[true, true, true, true, true, true, true, true, true, false, false, false, false] rfl rfl (take_ofW HT_.out HW_.out (by kernel_rfl)) (fun _ _ _ h => h) (Or.inl ⟨by rfl, ?_⟩) hHeld ?_ ?_
      rotate_left
      ·rintro w' ⟨s0, s1, s2, s3, s4, s5, s6, s7⟩
       go_simp
       with_reducible rfl
      rotate_left
      ·simp only [Act.put, List.setIfInBounds_toArray, List.set_cons_zero, List.set_cons_succ, i64_w, i32_w]
       rfl
      refine take_ (i := 9) (N := some 36) (v := ?_) (a' := ?_) #[true, true, true, true, true, true, true, true, true, true, false, false, false] rfl rfl (take_ofW HT_.out HW_.out (by kernel_rfl)) (fun _ _ _ h => h) (Or.inl ⟨by rfl, ?_⟩) hHeld ?_ ?_
      rotate_left
      ·rintro w' ⟨s0, s1, s2, s3, s4, s5, s6, s7⟩
       go_simp
       with_reducible rfl
      rotate_left
      ·simp only [Act.put, List.setIfInBounds_toArray, List.set_cons_zero, List.set_cons_succ, i64_w, i32_w]
       rfl
      refine pure_ (i := 10) (N := some 37) (v := ?_) (a' := ?_) #[true, true, true, true, true, true, true, true, true, true, true, false, false] rfl rfl (any_of HT_.out (by kernel_rfl)) (fun _ _ _ h => h) (Or.inl ⟨by rfl, ?_⟩) ?_ ?_
      rotate_left
      ·intro w'
       go_simp
       with_reducible rfl
      rotate_left
      ·simp only [Act.put, List.setIfInBounds_toArray, List.set_cons_zero, List.set_cons_succ, i64_w, i32_w]
       rfl
      refine pure_ (i := 11) (N := some 38) (v := ?_) (a' := ?_) #[true, true, true, true, true, true, true, true, true, true, true, true, false] rfl rfl (any_of HT_.out (by kernel_rfl)) (fun _ _ _ h => h) (Or.inl ⟨by rfl, ?_⟩) ?_ ?_
      rotate_left
      ·intro w'
       go_simp
       with_reducible rfl
      rotate_left
      ·simp only [Act.put, List.setIfInBounds_toArray, List.set_cons_zero, List.set_cons_succ, i64_w, i32_w]
       rfl
      refine one_ (i := 12) (N := none) #[true, true, true, true, true, true, true, true, true, true, true, true, true] rfl rfl (one_of HT_.out (by kernel_rfl)) (by decide) (fun K hK => ?_)
      have hs11 : w10.cell? ⟨gb210, 0, none⟩ = some (.int .i64 0) := (blk_cell BK210.out 0).trans rfl
      have hfs11 := blk_frozen BK210.out 0
      have hs12 : w10.cell? ⟨gb210, 1, none⟩ = some (.string (⟨#[]⟩ : ByteArray)) := (blk_cell BK210.out 1).trans rfl
      have hfs12 := blk_frozen BK210.out 1
      have hs13 : w10.cell? ⟨gb210, 2, none⟩ = some (.int .i64 0) := (blk_cell BK210.out 2).trans rfl
      have hfs13 := blk_frozen BK210.out 2
      refine skip_ (w1 := ?_) (by rfl) rfl ?_ ?_
      rotate_left
      ·go_simp
       rfl
      refine hK.out _ _ ⟨((cell_far (p := ⟨gb210, _, none⟩) (by first | exact Nat.ne_of_lt (Nat.lt_of_lt_of_le (by have := World.block_lt_of_cell? _ _ hw214_0; first | rwa [add_block] at this | exact this) GW210.out) | (rw [add_block]; exact Nat.ne_of_lt (Nat.lt_of_lt_of_le (by have := World.block_lt_of_cell? _ _ hw214_0; first | rwa [add_block] at this | exact this) GW210.out)) | (show (Addr.add _ _).block ≠ _; rw [add_block]; exact Nat.ne_of_lt (Nat.lt_of_lt_of_le (by have := World.block_lt_of_cell? _ _ hw214_0; first | rwa [add_block] at this | exact this) GW210.out)) | (dsimp only; exact Nat.ne_of_lt (Nat.lt_of_lt_of_le (by have := World.block_lt_of_cell? _ _ hw214_0; first | rwa [add_block] at this | exact this) GW210.out))) _).trans (((cell_far (p := ⟨gb210, _, none⟩) (by first | exact Nat.ne_of_lt (Nat.lt_of_lt_of_le (by have := World.block_lt_of_cell? _ _ hw214_0; first | rwa [add_block] at this | exact this) GW210.out) | (rw [add_block]; exact Nat.ne_of_lt (Nat.lt_of_lt_of_le (by have := World.block_lt_of_cell? _ _ hw214_0; first | rwa [add_block] at this | exact this) GW210.out)) | (show (Addr.add _ _).block ≠ _; rw [add_block]; exact Nat.ne_of_lt (Nat.lt_of_lt_of_le (by have := World.block_lt_of_cell? _ _ hw214_0; first | rwa [add_block] at this | exact this) GW210.out)) | (dsimp only; exact Nat.ne_of_lt (Nat.lt_of_lt_of_le (by have := World.block_lt_of_cell? _ _ hw214_0; first | rwa [add_block] at this | exact this) GW210.out))) _).trans (((cell_far (p := ⟨gb210, _, none⟩) (by first | exact Nat.ne_of_lt (Nat.lt_of_lt_of_le (by have := World.block_lt_of_cell? _ _ hw214_0; first | rwa [add_block] at this | exact this) GW210.out) | (rw [add_block]; exact Nat.ne_of_lt (Nat.lt_of_lt_of_le (by have := World.block_lt_of_cell? _ _ hw214_0; first | rwa [add_block] at this | exact this) GW210.out)) | (show (Addr.add _ _).block ≠ _; rw [add_block]; exact Nat.ne_of_lt (Nat.lt_of_lt_of_le (by have := World.block_lt_of_cell? _ _ hw214_0; first | rwa [add_block] at this | exact this) GW210.out)) | (dsimp only; exact Nat.ne_of_lt (Nat.lt_of_lt_of_le (by have := World.block_lt_of_cell? _ _ hw214_0; first | rwa [add_block] at this | exact this) GW210.out))) _).trans (hHeld.1)))))), ((cell_far (p := ⟨gb210, _, none⟩) (by first | exact Nat.ne_of_lt (Nat.lt_of_lt_of_le (by have := World.block_lt_of_cell? _ _ hw214_1; first | rwa [add_block] at this | exact this) GW210.out) | (rw [add_block]; exact Nat.ne_of_lt (Nat.lt_of_lt_of_le (by have := World.block_lt_of_cell? _ _ hw214_1; first | rwa [add_block] at this | exact this) GW210.out)) | (show (Addr.add _ _).block ≠ _; rw [add_block]; exact Nat.ne_of_lt (Nat.lt_of_lt_of_le (by have := World.block_lt_of_cell? _ _ hw214_1; first | rwa [add_block] at this | exact this) GW210.out)) | (dsimp only; exact Nat.ne_of_lt (Nat.lt_of_lt_of_le (by have := World.block_lt_of_cell? _ _ hw214_1; first | rwa [add_block] at this | exact this) GW210.out))) _).trans (((cell_far (p := ⟨gb210, _, none⟩) (by first | exact Nat.ne_of_lt (Nat.lt_of_lt_of_le (by have := World.block_lt_of_cell? _ _ hw214_1; first | rwa [add_block] at this | exact this) GW210.out) | (rw [add_block]; exact Nat.ne_of_lt (Nat.lt_of_lt_of_le (by have := World.block_lt_of_cell? _ _ hw214_1; first | rwa [add_block] at this | exact this) GW210.out)) | (show (Addr.add _ _).block ≠ _; rw [add_block]; exact Nat.ne_of_lt (Nat.lt_of_lt_of_le (by have := World.block_lt_of_cell? _ _ hw214_1; first | rwa [add_block] at this | exact this) GW210.out)) | (dsimp only; exact Nat.ne_of_lt (Nat.lt_of_lt_of_le (by have := World.block_lt_of_cell? _ _ hw214_1; first | rwa [add_block] at this | exact this) GW210.out))) _).trans (((cell_far (p := ⟨gb210, _, none⟩) (by first | exact Nat.ne_of_lt (Nat.lt_of_lt_of_le (by have := World.block_lt_of_cell? _ _ hw214_1; first | rwa [add_block] at this | exact this) GW210.out) | (rw [add_block]; exact Nat.ne_of_lt (Nat.lt_of_lt_of_le (by have := World.block_lt_of_cell? _ _ hw214_1; first | rwa [add_block] at this | exact this) GW210.out)) | (show (Addr.add _ _).block ≠ _; rw [add_block]; exact Nat.ne_of_lt (Nat.lt_of_lt_of_le (by have := World.block_lt_of_cell? _ _ hw214_1; first | rwa [add_block] at this | exact this) GW210.out)) | (dsimp only; exact Nat.ne_of_lt (Nat.lt_of_lt_of_le (by have := World.block_lt_of_cell? _ _ hw214_1; first | rwa [add_block] at this | exact this) GW210.out))) _).trans (hHeld.2.1)))))), ((cell_far (p := ⟨gb210, _, none⟩) (by first | exact Nat.ne_of_lt (Nat.lt_of_lt_of_le (by have := World.block_lt_of_cell? _ _ hw214_2; first | rwa [add_block] at this | exact this) GW210.out) | (rw [add_block]; exact Nat.ne_of_lt (Nat.lt_of_lt_of_le (by have := World.block_lt_of_cell? _ _ hw214_2; first | rwa [add_block] at this | exact this) GW210.out)) | (show (Addr.add _ _).block ≠ _; rw [add_block]; exact Nat.ne_of_lt (Nat.lt_of_lt_of_le (by have := World.block_lt_of_cell? _ _ hw214_2; first | rwa [add_block] at this | exact this) GW210.out)) | (dsimp only; exact Nat.ne_of_lt (Nat.lt_of_lt_of_le (by have := World.block_lt_of_cell? _ _ hw214_2; first | rwa [add_block] at this | exact this) GW210.out))) _).trans (((cell_far (p := ⟨gb210, _, none⟩) (by first | exact Nat.ne_of_lt (Nat.lt_of_lt_of_le (by have := World.block_lt_of_cell? _ _ hw214_2; first | rwa [add_block] at this | exact this) GW210.out) | (rw [add_block]; exact Nat.ne_of_lt (Nat.lt_of_lt_of_le (by have := World.block_lt_of_cell? _ _ hw214_2; first | rwa [add_block] at this | exact this) GW210.out)) | (show (Addr.add _ _).block ≠ _; rw [add_block]; exact Nat.ne_of_lt (Nat.lt_of_lt_of_le (by have := World.block_lt_of_cell? _ _ hw214_2; first | rwa [add_block] at this | exact this) GW210.out)) | (dsimp only; exact Nat.ne_of_lt (Nat.lt_of_lt_of_le (by have := World.block_lt_of_cell? _ _ hw214_2; first | rwa [add_block] at this | exact this) GW210.out))) _).trans (((cell_far (p := ⟨gb210, _, none⟩) (by first | exact Nat.ne_of_lt (Nat.lt_of_lt_of_le (by have := World.block_lt_of_cell? _ _ hw214_2; first | rwa [add_block] at this | exact this) GW210.out) | (rw [add_block]; exact Nat.ne_of_lt (Nat.lt_of_lt_of_le (by have := World.block_lt_of_cell? _ _ hw214_2; first | rwa [add_block] at this | exact this) GW210.out)) | (show (Addr.add _ _).block ≠ _; rw [add_block]; exact Nat.ne_of_lt (Nat.lt_of_lt_of_le (by have := World.block_lt_of_cell? _ _ hw214_2; first | rwa [add_block] at this | exact this) GW210.out)) | (dsimp only; exact Nat.ne_of_lt (Nat.lt_of_lt_of_le (by have := World.block_lt_of_cell? _ _ hw214_2; first | rwa [add_block] at this | exact this) GW210.out))) _).trans (hHeld.2.2.1)))))), ((cell_far (p := ⟨gb210, _, none⟩) (by first | exact Nat.ne_of_lt (Nat.lt_of_lt_of_le (by have := World.block_lt_of_cell? _ _ hw214_3; first | rwa [add_block] at this | exact this) GW210.out) | (rw [add_block]; exact Nat.ne_of_lt (Nat.lt_of_lt_of_le (by have := World.block_lt_of_cell? _ _ hw214_3; first | rwa [add_block] at this | exact this) GW210.out)) | (show (Addr.add _ _).block ≠ _; rw [add_block]; exact Nat.ne_of_lt (Nat.lt_of_lt_of_le (by have := World.block_lt_of_cell? _ _ hw214_3; first | rwa [add_block] at this | exact this) GW210.out)) | (dsimp only; exact Nat.ne_of_lt (Nat.lt_of_lt_of_le (by have := World.block_lt_of_cell? _ _ hw214_3; first | rwa [add_block] at this | exact this) GW210.out))) _).trans (((cell_far (p := ⟨gb210, _, none⟩) (by first | exact Nat.ne_of_lt (Nat.lt_of_lt_of_le (by have := World.block_lt_of_cell? _ _ hw214_3; first | rwa [add_block] at this | exact this) GW210.out) | (rw [add_block]; exact Nat.ne_of_lt (Nat.lt_of_lt_of_le (by have := World.block_lt_of_cell? _ _ hw214_3; first | rwa [add_block] at this | exact this) GW210.out)) | (show (Addr.add _ _).block ≠ _; rw [add_block]; exact Nat.ne_of_lt (Nat.lt_of_lt_of_le (by have := World.block_lt_of_cell? _ _ hw214_3; first | rwa [add_block] at this | exact this) GW210.out)) | (dsimp only; exact Nat.ne_of_lt (Nat.lt_of_lt_of_le (by have := World.block_lt_of_cell? _ _ hw214_3; first | rwa [add_block] at this | exact this) GW210.out))) _).trans (((cell_far (p := ⟨gb210, _, none⟩) (by first | exact Nat.ne_of_lt (Nat.lt_of_lt_of_le (by have := World.block_lt_of_cell? _ _ hw214_3; first | rwa [add_block] at this | exact this) GW210.out) | (rw [add_block]; exact Nat.ne_of_lt (Nat.lt_of_lt_of_le (by have := World.block_lt_of_cell? _ _ hw214_3; first | rwa [add_block] at this | exact this) GW210.out)) | (show (Addr.add _ _).block ≠ _; rw [add_block]; exact Nat.ne_of_lt (Nat.lt_of_lt_of_le (by have := World.block_lt_of_cell? _ _ hw214_3; first | rwa [add_block] at this | exact this) GW210.out)) | (dsimp only; exact Nat.ne_of_lt (Nat.lt_of_lt_of_le (by have := World.block_lt_of_cell? _ _ hw214_3; first | rwa [add_block] at this | exact this) GW210.out))) _).trans (hHeld.2.2.2.1)))))), ((cell_far (p := ⟨gb210, _, none⟩) (by first | exact Nat.ne_of_lt (Nat.lt_of_lt_of_le (by have := World.block_lt_of_cell? _ _ hw215_0; first | rwa [add_block] at this | exact this) GW210.out) | (rw [add_block]; exact Nat.ne_of_lt (Nat.lt_of_lt_of_le (by have := World.block_lt_of_cell? _ _ hw215_0; first | rwa [add_block] at this | exact this) GW210.out)) | (show (Addr.add _ _).block ≠ _; rw [add_block]; exact Nat.ne_of_lt (Nat.lt_of_lt_of_le (by have := World.block_lt_of_cell? _ _ hw215_0; first | rwa [add_block] at this | exact this) GW210.out)) | (dsimp only; exact Nat.ne_of_lt (Nat.lt_of_lt_of_le (by have := World.block_lt_of_cell? _ _ hw215_0; first | rwa [add_block] at this | exact this) GW210.out))) _).trans (((cell_far (p := ⟨gb210, _, none⟩) (by first | exact Nat.ne_of_lt (Nat.lt_of_lt_of_le (by have := World.block_lt_of_cell? _ _ hw215_0; first | rwa [add_block] at this | exact this) GW210.out) | (rw [add_block]; exact Nat.ne_of_lt (Nat.lt_of_lt_of_le (by have := World.block_lt_of_cell? _ _ hw215_0; first | rwa [add_block] at this | exact this) GW210.out)) | (show (Addr.add _ _).block ≠ _; rw [add_block]; exact Nat.ne_of_lt (Nat.lt_of_lt_of_le (by have := World.block_lt_of_cell? _ _ hw215_0; first | rwa [add_block] at this | exact this) GW210.out)) | (dsimp only; exact Nat.ne_of_lt (Nat.lt_of_lt_of_le (by have := World.block_lt_of_cell? _ _ hw215_0; first | rwa [add_block] at this | exact this) GW210.out))) _).trans (((cell_far (p := ⟨gb210, _, none⟩) (by first | exact Nat.ne_of_lt (Nat.lt_of_lt_of_le (by have := World.block_lt_of_cell? _ _ hw215_0; first | rwa [add_block] at this | exact this) GW210.out) | (rw [add_block]; exact Nat.ne_of_lt (Nat.lt_of_lt_of_le (by have := World.block_lt_of_cell? _ _ hw215_0; first | rwa [add_block] at this | exact this) GW210.out)) | (show (Addr.add _ _).block ≠ _; rw [add_block]; exact Nat.ne_of_lt (Nat.lt_of_lt_of_le (by have := World.block_lt_of_cell? _ _ hw215_0; first | rwa [add_block] at this | exact this) GW210.out)) | (dsimp only; exact Nat.ne_of_lt (Nat.lt_of_lt_of_le (by have := World.block_lt_of_cell? _ _ hw215_0; first | rwa [add_block] at this | exact this) GW210.out))) _).trans (hHeld.2.2.2.2.1)))))), ((cell_far (p := ⟨gb210, _, none⟩) (by first | exact Nat.ne_of_lt (Nat.lt_of_lt_of_le (by have := World.block_lt_of_cell? _ _ hw215_1; first | rwa [add_block] at this | exact this) GW210.out) | (rw [add_block]; exact Nat.ne_of_lt (Nat.lt_of_lt_of_le (by have := World.block_lt_of_cell? _ _ hw215_1; first | rwa [add_block] at this | exact this) GW210.out)) | (show (Addr.add _ _).block ≠ _; rw [add_block]; exact Nat.ne_of_lt (Nat.lt_of_lt_of_le (by have := World.block_lt_of_cell? _ _ hw215_1; first | rwa [add_block] at this | exact this) GW210.out)) | (dsimp only; exact Nat.ne_of_lt (Nat.lt_of_lt_of_le (by have := World.block_lt_of_cell? _ _ hw215_1; first | rwa [add_block] at this | exact this) GW210.out))) _).trans (((cell_far (p := ⟨gb210, _, none⟩) (by first | exact Nat.ne_of_lt (Nat.lt_of_lt_of_le (by have := World.block_lt_of_cell? _ _ hw215_1; first | rwa [add_block] at this | exact this) GW210.out) | (rw [add_block]; exact Nat.ne_of_lt (Nat.lt_of_lt_of_le (by have := World.block_lt_of_cell? _ _ hw215_1; first | rwa [add_block] at this | exact this) GW210.out)) | (show (Addr.add _ _).block ≠ _; rw [add_block]; exact Nat.ne_of_lt (Nat.lt_of_lt_of_le (by have := World.block_lt_of_cell? _ _ hw215_1; first | rwa [add_block] at this | exact this) GW210.out)) | (dsimp only; exact Nat.ne_of_lt (Nat.lt_of_lt_of_le (by have := World.block_lt_of_cell? _ _ hw215_1; first | rwa [add_block] at this | exact this) GW210.out))) _).trans (((cell_far (p := ⟨gb210, _, none⟩) (by first | exact Nat.ne_of_lt (Nat.lt_of_lt_of_le (by have := World.block_lt_of_cell? _ _ hw215_1; first | rwa [add_block] at this | exact this) GW210.out) | (rw [add_block]; exact Nat.ne_of_lt (Nat.lt_of_lt_of_le (by have := World.block_lt_of_cell? _ _ hw215_1; first | rwa [add_block] at this | exact this) GW210.out)) | (show (Addr.add _ _).block ≠ _; rw [add_block]; exact Nat.ne_of_lt (Nat.lt_of_lt_of_le (by have := World.block_lt_of_cell? _ _ hw215_1; first | rwa [add_block] at this | exact this) GW210.out)) | (dsimp only; exact Nat.ne_of_lt (Nat.lt_of_lt_of_le (by have := World.block_lt_of_cell? _ _ hw215_1; first | rwa [add_block] at this | exact this) GW210.out))) _).trans (hHeld.2.2.2.2.2.1)))))), ((cell_far (p := ⟨gb210, _, none⟩) (by first | exact Nat.ne_of_lt (Nat.lt_of_lt_of_le (by have := World.block_lt_of_cell? _ _ hw215_2; first | rwa [add_block] at this | exact this) GW210.out) | (rw [add_block]; exact Nat.ne_of_lt (Nat.lt_of_lt_of_le (by have := World.block_lt_of_cell? _ _ hw215_2; first | rwa [add_block] at this | exact this) GW210.out)) | (show (Addr.add _ _).block ≠ _; rw [add_block]; exact Nat.ne_of_lt (Nat.lt_of_lt_of_le (by have := World.block_lt_of_cell? _ _ hw215_2; first | rwa [add_block] at this | exact this) GW210.out)) | (dsimp only; exact Nat.ne_of_lt (Nat.lt_of_lt_of_le (by have := World.block_lt_of_cell? _ _ hw215_2; first | rwa [add_block] at this | exact this) GW210.out))) _).trans (((cell_far (p := ⟨gb210, _, none⟩) (by first | exact Nat.ne_of_lt (Nat.lt_of_lt_of_le (by have := World.block_lt_of_cell? _ _ hw215_2; first | rwa [add_block] at this | exact this) GW210.out) | (rw [add_block]; exact Nat.ne_of_lt (Nat.lt_of_lt_of_le (by have := World.block_lt_of_cell? _ _ hw215_2; first | rwa [add_block] at this | exact this) GW210.out)) | (show (Addr.add _ _).block ≠ _; rw [add_block]; exact Nat.ne_of_lt (Nat.lt_of_lt_of_le (by have := World.block_lt_of_cell? _ _ hw215_2; first | rwa [add_block] at this | exact this) GW210.out)) | (dsimp only; exact Nat.ne_of_lt (Nat.lt_of_lt_of_le (by have := World.block_lt_of_cell? _ _ hw215_2; first | rwa [add_block] at this | exact this) GW210.out))) _).trans (((cell_far (p := ⟨gb210, _, none⟩) (by first | exact Nat.ne_of_lt (Nat.lt_of_lt_of_le (by have := World.block_lt_of_cell? _ _ hw215_2; first | rwa [add_block] at this | exact this) GW210.out) | (rw [add_block]; exact Nat.ne_of_lt (Nat.lt_of_lt_of_le (by have := World.block_lt_of_cell? _ _ hw215_2; first | rwa [add_block] at this | exact this) GW210.out)) | (show (Addr.add _ _).block ≠ _; rw [add_block]; exact Nat.ne_of_lt (Nat.lt_of_lt_of_le (by have := World.block_lt_of_cell? _ _ hw215_2; first | rwa [add_block] at this | exact this) GW210.out)) | (dsimp only; exact Nat.ne_of_lt (Nat.lt_of_lt_of_le (by have := World.block_lt_of_cell? _ _ hw215_2; first | rwa [add_block] at this | exact this) GW210.out))) _).trans (hHeld.2.2.2.2.2.2.1)))))), ((cell_far (p := ⟨gb210, _, none⟩) (by first | exact Nat.ne_of_lt (Nat.lt_of_lt_of_le (by have := World.block_lt_of_cell? _ _ hw215_3; first | rwa [add_block] at this | exact this) GW210.out) | (rw [add_block]; exact Nat.ne_of_lt (Nat.lt_of_lt_of_le (by have := World.block_lt_of_cell? _ _ hw215_3; first | rwa [add_block] at this | exact this) GW210.out)) | (show (Addr.add _ _).block ≠ _; rw [add_block]; exact Nat.ne_of_lt (Nat.lt_of_lt_of_le (by have := World.block_lt_of_cell? _ _ hw215_3; first | rwa [add_block] at this | exact this) GW210.out)) | (dsimp only; exact Nat.ne_of_lt (Nat.lt_of_lt_of_le (by have := World.block_lt_of_cell? _ _ hw215_3; first | rwa [add_block] at this | exact this) GW210.out))) _).trans (((cell_far (p := ⟨gb210, _, none⟩) (by first | exact Nat.ne_of_lt (Nat.lt_of_lt_of_le (by have := World.block_lt_of_cell? _ _ hw215_3; first | rwa [add_block] at this | exact this) GW210.out) | (rw [add_block]; exact Nat.ne_of_lt (Nat.lt_of_lt_of_le (by have := World.block_lt_of_cell? _ _ hw215_3; first | rwa [add_block] at this | exact this) GW210.out)) | (show (Addr.add _ _).block ≠ _; rw [add_block]; exact Nat.ne_of_lt (Nat.lt_of_lt_of_le (by have := World.block_lt_of_cell? _ _ hw215_3; first | rwa [add_block] at this | exact this) GW210.out)) | (dsimp only; exact Nat.ne_of_lt (Nat.lt_of_lt_of_le (by have := World.block_lt_of_cell? _ _ hw215_3; first | rwa [add_block] at this | exact this) GW210.out))) _).trans (((cell_far (p := ⟨gb210, _, none⟩) (by first | exact Nat.ne_of_lt (Nat.lt_of_lt_of_le (by have := World.block_lt_of_cell? _ _ hw215_3; first | rwa [add_block] at this | exact this) GW210.out) | (rw [add_block]; exact Nat.ne_of_lt (Nat.lt_of_lt_of_le (by have := World.block_lt_of_cell? _ _ hw215_3; first | rwa [add_block] at this | exact this) GW210.out)) | (show (Addr.add _ _).block ≠ _; rw [add_block]; exact Nat.ne_of_lt (Nat.lt_of_lt_of_le (by have := World.block_lt_of_cell? _ _ hw215_3; first | rwa [add_block] at this | exact this) GW210.out)) | (dsimp only; exact Nat.ne_of_lt (Nat.lt_of_lt_of_le (by have := World.block_lt_of_cell? _ _ hw215_3; first | rwa [add_block] at this | exact this) GW210.out))) _).trans (hHeld.2.2.2.2.2.2.2))))))⟩ (fun hHeld => ?_)
      clear hK K
      refine done_ (done_of HT_.out (by kernel_rfl)) ?_
      try go_wp2
      refine bodyPost_ret (results_cell_row rfl _ _ gb210 24 #[.int .i64 ((rd_T44 l1 t211).f1), .string (⟨#[]⟩ : ByteArray), .int .i64 (Go.bits .and .i64 ((rd_T44 l1 t211).f2) 65535)] (0, 0) _ rfl (by (with_reducible repeat(first|apply bN|apply bD)); refine blk_put (cs := #[.int .i64 ((rd_T44 l1 t211).f1), .string (⟨#[]⟩ : ByteArray), .int .i64 0]) ?_ 2 _ rfl; (with_reducible repeat(first|apply bN|apply bD)); refine blk_put (cs := #[.int .i64 ((rd_T44 l1 t211).f1), .string (⟨#[]⟩ : ByteArray), .int .i64 0]) ?_ 1 _ rfl; (with_reducible repeat(first|apply bN|apply bD)); refine blk_put (cs := #[.int .i64 0, .string (⟨#[]⟩ : ByteArray), .int .i64 0]) ?_ 0 _ rfl; (with_reducible repeat(first|apply bN|apply bD)); exact BK210.out) Try.underlying24 rfl (by kernel_rfl)) rfl ?_
      exact ⟨by first | rfl | (simp [errW_none, errW_some] <;> rfl) | (simp [*, errW_none, errW_some] <;> rfl), by repeat (first|(with_reducible first | exact HB.out | apply below_alloc | apply pw_below_drewN | apply below_drew1 | refine below_set ?_ GE210.out) | exact HB.out)⟩
     ·rw [if_neg c8] at H
      have c8b0 : decide (((rd_T44 l1 t211).f1) ≤ 3) = false := decide_eq_false c8
      clear c8
      simp only [Option.some.injEq, Prod.mk.injEq] at H
      obtain ⟨rfl, rfl, rfl⟩ := H
      go_enter Try.func51, Try.ntmps51
      go_wp2_with (first | ((with_reducible refine gate_dst (N := 4) rfl ?_); refine box_event ?hg (N := 4) ?hd (cs := #[.int .i64 0, .string (⟨#[]⟩ : ByteArray), .int .i64 0]) (t := 24) ?hr ?_; (case hd => rfl); (case hg => rfl); (case hr => first | (go_simp; done) | (go_simp; rfl)); intro gb210 hg w14 hbox hb; have n0_ := Aside0.mk (below_step (by repeat (first|(with_reducible first | exact HB.out | apply below_alloc | apply pw_below_drewN | apply below_drew1) | exact HB.out)) hb); have n1_ := Aside0.mk (hbox); have n2_ := Aside0.mk ((by rw [hg]; exact (below_size (by repeat (first|(with_reducible first | exact HB.out | apply below_alloc | apply pw_below_drewN | apply below_drew1) | exact HB.out))) : w.heap.size ≤ gb210)); have n3_ := n2_; clear HB; have HB := n0_; have BK210 := n1_; have GW210 := n2_; have GE210 := n3_; clear n0_ n1_ n2_ n3_; clear hb hbox hg) | ((with_reducible refine gate_callee (f := 15) rfl ?_); refine goesL_ (some 8) rfl rfl Try.func15 (by kernel_rfl) rfl #[.slice A1 l1.length c1, .string a0] rfl (by (try simp only [List.map_toArray, List.map_cons, List.map_nil]); first | done | rfl | (simp only [List.length_drop, List.length_take]; rfl)) ?_; (with_reducible refine (emulatorref26_Find.calls k _ _ l1 a0 t211 _ ?side1 ?side2 A3.out).mono ?_); (case side1 => repeat (first | exact (Kd.C_below HR1.out HB.out)|(with_reducible refine Kd.C_alloc ?_ _)|(with_reducible refine Kd.C_drewN ?_ _)|(with_reducible refine Kd.C_drew ?_))); (case side2 => exact HC1.out); rintro e w' ⟨rfl, ⟨nd, rfl⟩⟩; refine ⟨_, rfl, ?_⟩; (try (rw [drewN_self w14]; generalize hq_ : World.drewN w14 _ = w14; have n0_ : Aside0 (w14.heap[gb210]? = some (.cells #[.int .i64 0, .string (⟨#[]⟩ : ByteArray), .int .i64 0] 24 (0, 0))) := ⟨by rw [← hq_]; exact (by (with_reducible repeat(first|apply bN|apply bD)); exact BK210.out)⟩; have n1_ : Aside0 (Below w.heap.size w w14) := ⟨by rw [← hq_]; exact (by repeat (first|(with_reducible first | exact HB.out | apply below_alloc | apply pw_below_drewN | apply below_drew1 | refine below_set ?_ GE210.out) | exact HB.out))⟩; clear BK210 HB hq_; have BK210 := n0_; have HB := n1_; clear n0_ n1_)); have p212 : 0 ≤ (t211 : Int) := of_decide_eq_true (by first|(with_reducible assumption) | assumption); have q212 : t211 < (l1.length : Int) := of_decide_eq_true (by first|(with_reducible assumption) | assumption); obtain ⟨ad212, e212, hx212_0, hx212_1, hx212_2, hx212_3⟩ := at_T44 HR1.out t211 p212 q212; cases e212; replace hx212_0 := (HB.out.cell (World.block_lt_of_cell? w _ hx212_0)).trans hx212_0; replace hx212_1 := (HB.out.cell (World.block_lt_of_cell? w _ hx212_1)).trans hx212_1; replace hx212_2 := (HB.out.cell (World.block_lt_of_cell? w _ hx212_2)).trans hx212_2; replace hx212_3 := (HB.out.cell (World.block_lt_of_cell? w _ hx212_3)).trans hx212_3; replace p212 := eq_true p212; replace q212 := eq_true q212; have p213 : 0 ≤ (t211 : Int) := of_decide_eq_true (by first|(with_reducible assumption) | assumption); have q213 : t211 < (l1.length : Int) := of_decide_eq_true (by first|(with_reducible assumption) | assumption); obtain ⟨ad213, e213, hx213_0, hx213_1, hx213_2, hx213_3⟩ := at_T44 HR1.out t211 p213 q213; obtain rfl : ad212 = ad213 := (by injection e213); replace hx213_0 := (HB.out.cell (World.block_lt_of_cell? w _ hx213_0)).trans hx213_0; replace hx213_1 := (HB.out.cell (World.block_lt_of_cell? w _ hx213_1)).trans hx213_1; replace hx213_2 := (HB.out.cell (World.block_lt_of_cell? w _ hx213_2)).trans hx213_2; replace hx213_3 := (HB.out.cell (World.block_lt_of_cell? w _ hx213_3)).trans hx213_3; replace p213 := eq_true p213; replace q213 := eq_true q213; have hcz15_0 : w14.cell? ⟨gb210, 0, none⟩ = some (.int .i64 0) := (blk_cell BK210.out 0).trans rfl; have hcz15_1 : w14.cell? ⟨gb210, 1, none⟩ = some (.string (⟨#[]⟩ : ByteArray)) := (blk_cell BK210.out 1).trans rfl; have hcz15_2 : w14.cell? ⟨gb210, 2, none⟩ = some (.int .i64 0) := (blk_cell BK210.out 2).trans rfl; have hfz15_0 := blk_frozen BK210.out 0; have hfz15_1 := blk_frozen BK210.out 1; have hfz15_2 := blk_frozen BK210.out 2))
      refine bodyPost_ret (results_cell_row rfl _ _ gb210 24 #[.int .i64 4, .string a0, .int .i64 0] (0, 0) _ rfl (by (with_reducible repeat(first|apply bN|apply bD)); refine blk_put (cs := #[.int .i64 4, .string a0, .int .i64 0]) ?_ 2 _ rfl; (with_reducible repeat(first|apply bN|apply bD)); refine blk_put (cs := #[.int .i64 4, .string (⟨#[]⟩ : ByteArray), .int .i64 0]) ?_ 1 _ rfl; (with_reducible repeat(first|apply bN|apply bD)); refine blk_put (cs := #[.int .i64 0, .string (⟨#[]⟩ : ByteArray), .int .i64 0]) ?_ 0 _ rfl; (with_reducible repeat(first|apply bN|apply bD)); exact BK210.out) Try.underlying24 rfl (by kernel_rfl)) rfl ?_
      exact ⟨by first | rfl | (simp [errW_none, errW_some] <;> rfl) | (simp [*, errW_none, errW_some] <;> rfl), by repeat (first|(with_reducible first | exact HB.out | apply below_alloc | apply pw_below_drewN | apply below_drew1 | refine below_set ?_ GE210.out) | exact HB.out)⟩
    ·rw [if_neg c7] at H
     have c7b0 : decide (0 ≤ ((rd_T44 l1 t211).f1)) = false := decide_eq_false c7
     clear c7
     simp only [Option.some.injEq, Prod.mk.injEq] at H
     obtain ⟨rfl, rfl, rfl⟩ := H
     go_enter Try.func51, Try.ntmps51
     go_wp2_with (first | ((with_reducible refine gate_dst (N := 4) rfl ?_); refine box_event ?hg (N := 4) ?hd (cs := #[.int .i64 0, .string (⟨#[]⟩ : ByteArray), .int .i64 0]) (t := 24) ?hr ?_; (case hd => rfl); (case hg => rfl); (case hr => first | (go_simp; done) | (go_simp; rfl)); intro gb210 hg w16 hbox hb; have n0_ := Aside0.mk (below_step (by repeat (first|(with_reducible first | exact HB.out | apply below_alloc | apply pw_below_drewN | apply below_drew1) | exact HB.out)) hb); have n1_ := Aside0.mk (hbox); have n2_ := Aside0.mk ((by rw [hg]; exact (below_size (by repeat (first|(with_reducible first | exact HB.out | apply below_alloc | apply pw_below_drewN | apply below_drew1) | exact HB.out))) : w.heap.size ≤ gb210)); have n3_ := n2_; clear HB; have HB := n0_; have BK210 := n1_; have GW210 := n2_; have GE210 := n3_; clear n0_ n1_ n2_ n3_; clear hb hbox hg) | ((with_reducible refine gate_callee (f := 15) rfl ?_); refine goesL_ (some 8) rfl rfl Try.func15 (by kernel_rfl) rfl #[.slice A1 l1.length c1, .string a0] rfl (by (try simp only [List.map_toArray, List.map_cons, List.map_nil]); first | done | rfl | (simp only [List.length_drop, List.length_take]; rfl)) ?_; (with_reducible refine (emulatorref26_Find.calls k _ _ l1 a0 t211 _ ?side1 ?side2 A3.out).mono ?_); (case side1 => repeat (first | exact (Kd.C_below HR1.out HB.out)|(with_reducible refine Kd.C_alloc ?_ _)|(with_reducible refine Kd.C_drewN ?_ _)|(with_reducible refine Kd.C_drew ?_))); (case side2 => exact HC1.out); rintro e w' ⟨rfl, ⟨nd, rfl⟩⟩; refine ⟨_, rfl, ?_⟩; (try (rw [drewN_self w16]; generalize hq_ : World.drewN w16 _ = w16; have n0_ : Aside0 (w16.heap[gb210]? = some (.cells #[.int .i64 0, .string (⟨#[]⟩ : ByteArray), .int .i64 0] 24 (0, 0))) := ⟨by rw [← hq_]; exact (by (with_reducible repeat(first|apply bN|apply bD)); exact BK210.out)⟩; have n1_ : Aside0 (Below w.heap.size w w16) := ⟨by rw [← hq_]; exact (by repeat (first|(with_reducible first | exact HB.out | apply below_alloc | apply pw_below_drewN | apply below_drew1 | refine below_set ?_ GE210.out) | exact HB.out))⟩; clear BK210 HB hq_; have BK210 := n0_; have HB := n1_; clear n0_ n1_)); have p212 : 0 ≤ (t211 : Int) := of_decide_eq_true (by first|(with_reducible assumption) | assumption); have q212 : t211 < (l1.length : Int) := of_decide_eq_true (by first|(with_reducible assumption) | assumption); obtain ⟨ad212, e212, hx212_0, hx212_1, hx212_2, hx212_3⟩ := at_T44 HR1.out t211 p212 q212; cases e212; replace hx212_0 := (HB.out.cell (World.block_lt_of_cell? w _ hx212_0)).trans hx212_0; replace hx212_1 := (HB.out.cell (World.block_lt_of_cell? w _ hx212_1)).trans hx212_1; replace hx212_2 := (HB.out.cell (World.block_lt_of_cell? w _ hx212_2)).trans hx212_2; replace hx212_3 := (HB.out.cell (World.block_lt_of_cell? w _ hx212_3)).trans hx212_3; replace p212 := eq_true p212; replace q212 := eq_true q212; have hcz17_0 : w16.cell? ⟨gb210, 0, none⟩ = some (.int .i64 0) := (blk_cell BK210.out 0).trans rfl; have hcz17_1 : w16.cell? ⟨gb210, 1, none⟩ = some (.string (⟨#[]⟩ : ByteArray)) := (blk_cell BK210.out 1).trans rfl; have hcz17_2 : w16.cell? ⟨gb210, 2, none⟩ = some (.int .i64 0) := (blk_cell BK210.out 2).trans rfl; have hfz17_0 := blk_frozen BK210.out 0; have hfz17_1 := blk_frozen BK210.out 1; have hfz17_2 := blk_frozen BK210.out 2))
     refine bodyPost_ret (results_cell_row rfl _ _ gb210 24 #[.int .i64 4, .string a0, .int .i64 0] (0, 0) _ rfl (by (with_reducible repeat(first|apply bN|apply bD)); refine blk_put (cs := #[.int .i64 4, .string a0, .int .i64 0]) ?_ 2 _ rfl; (with_reducible repeat(first|apply bN|apply bD)); refine blk_put (cs := #[.int .i64 4, .string (⟨#[]⟩ : ByteArray), .int .i64 0]) ?_ 1 _ rfl; (with_reducible repeat(first|apply bN|apply bD)); refine blk_put (cs := #[.int .i64 0, .string (⟨#[]⟩ : ByteArray), .int .i64 0]) ?_ 0 _ rfl; (with_reducible repeat(first|apply bN|apply bD)); exact BK210.out) Try.underlying24 rfl (by kernel_rfl)) rfl ?_
     exact ⟨by first | rfl | (simp [errW_none, errW_some] <;> rfl) | (simp [*, errW_none, errW_some] <;> rfl), by repeat (first|(with_reducible first | exact HB.out | apply below_alloc | apply pw_below_drewN | apply below_drew1 | refine below_set ?_ GE210.out) | exact HB.out)⟩
   ·rw [if_neg c6] at H
    exact absurd H (by simp)
  ·rw [if_neg c5] at H
   exact absurd H (by simp)
 ·rw [if_neg c4] at H
  have c4b0 : decide (0 ≤ t211) = false := decide_eq_false c4
  clear c4
  simp only [Option.some.injEq, Prod.mk.injEq] at H
  obtain ⟨rfl, rfl, rfl⟩ := H
  go_enter Try.func51, Try.ntmps51
  go_wp2_with (first | ((with_reducible refine gate_dst (N := 4) rfl ?_); refine box_event ?hg (N := 4) ?hd (cs := #[.int .i64 0, .string (⟨#[]⟩ : ByteArray), .int .i64 0]) (t := 24) ?hr ?_; (case hd => rfl); (case hg => rfl); (case hr => first | (go_simp; done) | (go_simp; rfl)); intro gb210 hg w18 hbox hb; have n0_ := Aside0.mk (below_step (by repeat (first|(with_reducible first | exact HB.out | apply below_alloc | apply pw_below_drewN | apply below_drew1) | exact HB.out)) hb); have n1_ := Aside0.mk (hbox); have n2_ := Aside0.mk ((by rw [hg]; exact (below_size (by repeat (first|(with_reducible first | exact HB.out | apply below_alloc | apply pw_below_drewN | apply below_drew1) | exact HB.out))) : w.heap.size ≤ gb210)); have n3_ := n2_; clear HB; have HB := n0_; have BK210 := n1_; have GW210 := n2_; have GE210 := n3_; clear n0_ n1_ n2_ n3_; clear hb hbox hg) | ((with_reducible refine gate_callee (f := 15) rfl ?_); refine goesL_ (some 8) rfl rfl Try.func15 (by kernel_rfl) rfl #[.slice A1 l1.length c1, .string a0] rfl (by (try simp only [List.map_toArray, List.map_cons, List.map_nil]); first | done | rfl | (simp only [List.length_drop, List.length_take]; rfl)) ?_; (with_reducible refine (emulatorref26_Find.calls k _ _ l1 a0 t211 _ ?side1 ?side2 A3.out).mono ?_); (case side1 => repeat (first | exact (Kd.C_below HR1.out HB.out)|(with_reducible refine Kd.C_alloc ?_ _)|(with_reducible refine Kd.C_drewN ?_ _)|(with_reducible refine Kd.C_drew ?_))); (case side2 => exact HC1.out); rintro e w' ⟨rfl, ⟨nd, rfl⟩⟩; refine ⟨_, rfl, ?_⟩; (try (rw [drewN_self w18]; generalize hq_ : World.drewN w18 _ = w18; have n0_ : Aside0 (w18.heap[gb210]? = some (.cells #[.int .i64 0, .string (⟨#[]⟩ : ByteArray), .int .i64 0] 24 (0, 0))) := ⟨by rw [← hq_]; exact (by (with_reducible repeat(first|apply bN|apply bD)); exact BK210.out)⟩; have n1_ : Aside0 (Below w.heap.size w w18) := ⟨by rw [← hq_]; exact (by repeat (first|(with_reducible first | exact HB.out | apply below_alloc | apply pw_below_drewN | apply below_drew1 | refine below_set ?_ GE210.out) | exact HB.out))⟩; clear BK210 HB hq_; have BK210 := n0_; have HB := n1_; clear n0_ n1_)); have hcz19_0 : w18.cell? ⟨gb210, 0, none⟩ = some (.int .i64 0) := (blk_cell BK210.out 0).trans rfl; have hcz19_1 : w18.cell? ⟨gb210, 1, none⟩ = some (.string (⟨#[]⟩ : ByteArray)) := (blk_cell BK210.out 1).trans rfl; have hcz19_2 : w18.cell? ⟨gb210, 2, none⟩ = some (.int .i64 0) := (blk_cell BK210.out 2).trans rfl; have hfz19_0 := blk_frozen BK210.out 0; have hfz19_1 := blk_frozen BK210.out 1; have hfz19_2 := blk_frozen BK210.out 2))
  refine bodyPost_ret (results_cell_row rfl _ _ gb210 24 #[.int .i64 4, .string a0, .int .i64 0] (0, 0) _ rfl (by (with_reducible repeat(first|apply bN|apply bD)); refine blk_put (cs := #[.int .i64 4, .string a0, .int .i64 0]) ?_ 2 _ rfl; (with_reducible repeat(first|apply bN|apply bD)); refine blk_put (cs := #[.int .i64 4, .string (⟨#[]⟩ : ByteArray), .int .i64 0]) ?_ 1 _ rfl; (with_reducible repeat(first|apply bN|apply bD)); refine blk_put (cs := #[.int .i64 0, .string (⟨#[]⟩ : ByteArray), .int .i64 0]) ?_ 0 _ rfl; (with_reducible repeat(first|apply bN|apply bD)); exact BK210.out) Try.underlying24 rfl (by kernel_rfl)) rfl ?_
  exact ⟨by first | rfl | (simp [errW_none, errW_some] <;> rfl) | (simp [*, errW_none, errW_some] <;> rfl), by repeat (first|(with_reducible first | exact HB.out | apply below_alloc | apply pw_below_drewN | apply below_drew1 | refine below_set ?_ GE210.out) | exact HB.out)⟩
end Go.Proofs.Ytpinoobgnnlccaa.A
namespace Go.Proofs.Ytpinoobgnnlccaa.A
open Go Go.RowKit Go.Proofs.YtpinoobgnnlccaaW.PrintWords
set_option linter.unusedSimpArgs false
set_option linter.unusedVariables false
theorem rsub_f (k : Nat) (a b : VV) : emulatorref26_Sub.f (k + 18) a.1 a.2.1 a.2.2 b.1 b.2.1 b.2.2 = outV (if vS a = true ∧ vS b = true then subS a b else ve 1) := by
 unfold emulatorref26_Sub.f
 rw [show k + 18 = (k + 1) + 17 from rfl, rvalid_f, rvalid_f, Option.bind_some, Option.bind_some]
 have hj : ∀ x, emulatorref26_Sub.j0 (k + 1 + 17) x a.1 a.2.1 a.2.2 b.1 b.2.1 b.2.2 = if x = true then outV (ve 1) else if b.1 = 0 then outV ((a.1, a.2.1, wrp (wrap64 (a.2.2 - b.2.2))), 0) else if a.1 = b.1 ∧ a.1 ≠ 4 then outV ((0, ⟨#[]⟩, wrp (wrap64 (a.2.2 - b.2.2))), 0) else outV (ve 22) := fun x => by
  rw [show k + 1 + 17 = (k + 17) + 1 from rfl, emulatorref26_Sub.j0]
  unfold emulatorref26_absolute.f
  rw [Option.bind_some]
  cases x
  ·by_cases h1 : b.1 = 0
   ·rw [h1]; rfl
   ·by_cases h2 : a.1 = b.1
    ·by_cases h3 : a.1 = 4 <;> simp [h1, h2, h3, outV, ve, v0, wrp] <;> simp_all
    ·simp [h1, h2, outV, ve, v0]
  ·rfl
 rw [hj, hj]
 by_cases ha : vS a = true
 ·have ha' : validS a.1 a.2.1 a.2.2 = true := ha
  rw [ha', if_pos rfl]
  by_cases hb : vS b = true
  ·have hb' : validS b.1 b.2.1 b.2.2 = true := hb
   rw [hb', if_pos (⟨ha, hb⟩ : vS a = true ∧ vS b = true), if_neg (by simp)]
   obtain ⟨_, _, a1, a2⟩ := v_num ha
   obtain ⟨_, _, b1, b2⟩ := v_num hb
   unfold subS
   by_cases h1 : b.1 = 0
   ·rw [if_pos h1, if_pos h1, w64 (-b.2.2) (by omega) (by omega)]; rfl
   ·rw [if_neg h1, if_neg h1]
    by_cases h2 : a.1 = b.1 ∧ a.1 ≠ 4
    ·rw [if_pos h2, if_pos h2]
    ·rw [if_neg h2, if_neg h2]
  ·have hb' : validS b.1 b.2.1 b.2.2 = false := by simpa [vS] using hb
   rw [hb', if_neg (fun g => hb g.2 : ¬ (vS a = true ∧ vS b = true)), if_pos (by simp)]
 ·have ha' : validS a.1 a.2.1 a.2.2 = false := by simpa [vS] using ha
  rw [ha', if_neg (fun g => ha g.1 : ¬ (vS a = true ∧ vS b = true)), if_neg (by simp), if_pos rfl]
theorem radd_f (k : Nat) (a b : VV) : emulatorref26_Add.f (k + 18) a.1 a.2.1 a.2.2 b.1 b.2.1 b.2.2 = outV (if vS a = true ∧ vS b = true then addS a b else ve 1) := by
 unfold emulatorref26_Add.f
 rw [show k + 18 = (k + 1) + 17 from rfl, rvalid_f, rvalid_f, Option.bind_some, Option.bind_some]
 have hj : ∀ x, emulatorref26_Add.j0 (k + 1 + 17) x a.1 a.2.1 a.2.2 b.1 b.2.1 b.2.2 = if x = true then outV (ve 1) else if b.1 = 0 then outV ((a.1, a.2.1, wrp (wrap64 (a.2.2 + b.2.2))), 0) else if a.1 = 0 then outV ((b.1, b.2.1, wrp (wrap64 (a.2.2 + b.2.2))), 0) else outV (ve 22) := fun x => by
  rw [show k + 1 + 17 = (k + 17) + 1 from rfl, emulatorref26_Add.j0]
  unfold emulatorref26_absolute.f
  rw [Option.bind_some]
  cases x
  ·by_cases h1 : b.1 = 0
   ·rw [h1]; rfl
   ·by_cases h2 : a.1 = 0 <;> simp [h1, h2, outV, ve, v0, wrp]
  ·rfl
 rw [hj, hj]
 by_cases ha : vS a = true
 ·have ha' : validS a.1 a.2.1 a.2.2 = true := ha
  rw [ha', if_pos rfl]
  by_cases hb : vS b = true
  ·have hb' : validS b.1 b.2.1 b.2.2 = true := hb
   rw [hb', if_pos (⟨ha, hb⟩ : vS a = true ∧ vS b = true), if_neg (by simp)]
   unfold addS
   by_cases h1 : b.1 = 0
   ·rw [if_pos h1, if_pos h1]
   ·rw [if_neg h1, if_neg h1]
    by_cases h2 : a.1 = 0
    ·rw [if_pos h2, if_pos h2, Int.add_comm]
    ·rw [if_neg h2, if_neg h2]
  ·have hb' : validS b.1 b.2.1 b.2.2 = false := by simpa [vS] using hb
   rw [hb', if_neg (fun g => hb g.2 : ¬ (vS a = true ∧ vS b = true)), if_pos (by simp)]
 ·have ha' : validS a.1 a.2.1 a.2.2 = false := by simpa [vS] using ha
  rw [ha', if_neg (fun g => ha g.1 : ¬ (vS a = true ∧ vS b = true)), if_neg (by simp), if_pos rfl]
theorem roper_f (o : ByteArray) : emulatorref26_Operator.f o = some (isOp o) := by
 unfold emulatorref26_Operator.f isOp sIs
 by_cases h1 : o.toList = [43]
 ·simp [h1]
 by_cases h2 : o.toList = [45]
 ·simp [h2]
 by_cases h3 : o.toList = [42]
 ·simp [h3]
 by_cases h4 : o.toList = [47]
 ·simp [h4]
 by_cases h5 : o.toList = [38]
 ·simp [h5]
 ·simp [h1, h2, h3, h4, h5]
theorem and_nat (x y : Int) (hx : 0 ≤ x) (hx1 : x ≤ 65535) (hy : 0 ≤ y) (hy1 : y ≤ 65535) : wrp (andF x y) = Go.bits .and .i64 x y ∧ wrp (orF x y) = Go.bits .or .i64 x y := by
 obtain ⟨a, rfl⟩ := Int.eq_ofNat_of_zero_le hx
 obtain ⟨b, rfl⟩ := Int.eq_ofNat_of_zero_le hy
 have e1 := Bits.nat_and a b (by omega) (by omega)
 have e2 := Bits.nat_or a b (by omega) (by omega)
 have l1 : a &&& b < 2 ^ 16 := Nat.and_lt_two_pow a (by omega)
 have l2 : a ||| b < 2 ^ 16 := Nat.or_lt_two_pow (by omega) (by omega)
 exact ⟨by unfold andF; rw [e1, wrp_id _ (by omega) (by omega)], by unfold orF; rw [e2, wrp_id _ (by omega) (by omega)]⟩
theorem rbin_f (k : Nat) (o : ByteArray) (a b : VV) : emulatorref26_Binary.f (k + 20) o a.1 a.2.1 a.2.2 b.1 b.2.1 b.2.2 = outV (binS o a b) := by
 unfold emulatorref26_Binary.f binS
 rw [show k + 20 = (k + 3) + 17 from rfl, rvalid_f, rvalid_f, roper_f, Option.bind_some, Option.bind_some, Option.bind_some]
 have hbad : emulatorref26_Binary.j0 (k + 3 + 17) o true a.1 a.2.1 a.2.2 b.1 b.2.1 b.2.2 = outV (ve 1) := by
  rw [show k + 3 + 17 = (k + 19) + 1 from rfl, emulatorref26_Binary.j0]; rfl
 by_cases ha : vS a = true
 ·have ha' : validS a.1 a.2.1 a.2.2 = true := ha
  rw [ha', if_pos rfl]
  by_cases hb : vS b = true
  ·have hb' : validS b.1 b.2.1 b.2.2 = true := hb
   rw [hb', if_pos rfl]
   cases ho : isOp o
   ·rw [if_neg (by simp)]; exact hbad
   ·rw [if_pos ⟨rfl, rfl, rfl⟩, show k + 3 + 17 = (k + 19) + 1 from rfl, Bool.not_true, emulatorref26_Binary.j0, if_neg (by simp)]
    unfold opS sIs
    by_cases h1 : o.toList = [43]
    ·rw [if_pos h1, if_pos (by simp [h1]), show k + 19 = (k + 1) + 18 from rfl, radd_f, if_pos ⟨ha, hb⟩]; rfl
    have g1 : ¬ (o.toList == ([43] : List UInt8)) = true := by simpa using h1
    rw [if_neg h1, if_neg g1]
    by_cases h2 : o.toList = [45]
    ·rw [if_pos h2, if_pos (by simp [h2]), show k + 19 = (k + 1) + 18 from rfl, rsub_f, if_pos ⟨ha, hb⟩]; rfl
    have g2 : ¬ (o.toList == ([45] : List UInt8)) = true := by simpa using h2
    rw [if_neg h2, if_neg g2]
    unfold emulatorref26_absolute.f
    rw [Option.bind_some, Option.bind_some]
    have hj : ∀ x, emulatorref26_Binary.j1 (k + 19) o x a.1 a.2.1 a.2.2 b.1 b.2.1 b.2.2 = if x = true then outV (ve 22) else (if o.toList = ([42] : List UInt8) then (some (0, (⟨#[]⟩ : ByteArray), Go.bits .and .i64 (wrap64 (a.2.2 * b.2.2)) 65535, 0)) else (if o.toList = ([38] : List UInt8) then (some (0, (⟨#[]⟩ : ByteArray), Go.bits .and .i64 a.2.2 b.2.2, 0)) else (if o.toList = ([124] : List UInt8) then (some (0, (⟨#[]⟩ : ByteArray), Go.bits .or .i64 a.2.2 b.2.2, 0)) else (if b.2.2 = 0 then (some (0, (⟨#[]⟩ : ByteArray), 0, 2)) else (some (0, (⟨#[]⟩ : ByteArray), wrap64 (Int.tdiv a.2.2 b.2.2), 0)))))) := fun x => by
     rw [show k + 19 = (k + 18) + 1 from rfl, emulatorref26_Binary.j1]; rfl
    obtain ⟨_, _, a1, a2⟩ := v_num ha
    obtain ⟨_, _, b1, b2⟩ := v_num hb
    obtain ⟨e1, e2⟩ := and_nat a.2.2 b.2.2 a1 a2 b1 b2
    have hop : o.toList = [42] ∨ o.toList = [47] ∨ o.toList = [38] ∨ o.toList = [124] := by
     unfold isOp sIs at ho; simp only [Bool.or_eq_true, beq_iff_eq] at ho
     rcases ho with ((((h | h) | h) | h) | h) | h
     ·exact absurd h h1
     ·exact absurd h h2
     ·exact .inl h
     ·exact .inr (.inl h)
     ·exact .inr (.inr (.inl h))
     ·exact .inr (.inr (.inr h))
    rw [hj, hj]
    by_cases hab : a.1 = 0 ∧ b.1 = 0
    ·obtain ⟨hA, hB⟩ := hab
     have nn : ¬ (a.1 ≠ 0 ∨ b.1 ≠ 0) := by simp [hA, hB]
     rw [if_pos (by simp [hA] : (a.1 == 0) = true), if_neg (by simp [hB] : ¬ (!(b.1 == 0)) = true)]
     rcases hop with h | h | h | h
     ·simp [h, numS, hA, hB, outV, mulF, wrp]
     ·have hd : divS a b = if b.2.2 = 0 then ve 2 else ((0, ⟨#[]⟩, wrap64 (Int.tdiv a.2.2 b.2.2)), 0) := by
       unfold divS numS
       by_cases h0 : b.2.2 = 0
       ·rw [if_pos ⟨hA, hB, h0⟩, if_pos h0]
       ·rw [if_neg (by simp [h0]), if_neg nn, if_neg h0]
        unfold divF
        rw [if_neg (by omega)]
        have q0 : 0 ≤ Int.tdiv a.2.2 b.2.2 := Int.tdiv_nonneg a1 b1
        have q1 : Int.tdiv a.2.2 b.2.2 ≤ a.2.2 := by rw [Int.tdiv_eq_ediv_of_nonneg a1]; exact Int.ediv_le_self _ a1
        rw [w64 _ (by omega) (by omega), wrp_id _ q0 (by omega)]
      have n42 : ¬ o.toList = [42] := by rw [h]; decide
      have n38 : ¬ o.toList = [38] := by rw [h]; decide
      have n124 : ¬ o.toList = [124] := by rw [h]; decide
      have m42 : ¬ (o.toList == ([42] : List UInt8)) = true := by rw [h]; decide
      have m47 : (o.toList == ([47] : List UInt8)) = true := by rw [h]; decide
      rw [if_neg n42, if_neg n38, if_neg n124, if_neg m42, if_pos m47, hd]
      by_cases h0 : b.2.2 = 0
      ·rw [if_pos h0, if_pos h0]; rfl
      ·rw [if_neg h0, if_neg h0]; rfl
     ·simp [h, numS, hA, hB, outV, e1]
     ·simp [h, numS, hA, hB, outV, e2]
    ·have nn : a.1 ≠ 0 ∨ b.1 ≠ 0 := by
      by_cases hA : a.1 = 0
      ·exact .inr fun hB => hab ⟨hA, hB⟩
      ·exact .inl hA
     have hnum : ∀ f, numS f a b = ve 22 := fun f => by unfold numS; rw [if_pos nn]
     have hdiv : divS a b = ve 22 := by unfold divS; rw [if_neg (fun g => hab ⟨g.1, g.2.1⟩)]; exact hnum _
     have lhs : (if (a.1 == 0) = true then (if (!(b.1 == 0)) = true then outV (ve 22) else (if o.toList = ([42] : List UInt8) then (some (0, (⟨#[]⟩ : ByteArray), Go.bits .and .i64 (wrap64 (a.2.2 * b.2.2)) 65535, 0)) else (if o.toList = ([38] : List UInt8) then (some (0, (⟨#[]⟩ : ByteArray), Go.bits .and .i64 a.2.2 b.2.2, 0)) else (if o.toList = ([124] : List UInt8) then (some (0, (⟨#[]⟩ : ByteArray), Go.bits .or .i64 a.2.2 b.2.2, 0)) else (if b.2.2 = 0 then (some (0, (⟨#[]⟩ : ByteArray), 0, 2)) else (some (0, (⟨#[]⟩ : ByteArray), wrap64 (Int.tdiv a.2.2 b.2.2), 0))))))) else (if true = true then outV (ve 22) else none)) = outV (ve 22) := by
      by_cases hA : a.1 = 0
      ·have hB : ¬ b.1 = 0 := fun hB => hab ⟨hA, hB⟩
       rw [if_pos (by simpa using hA), if_pos (by simpa using hB)]
      ·rw [if_neg (by simpa using hA), if_pos rfl]
     simp only [if_true] at lhs ⊢
     rw [lhs]
     rcases hop with h | h | h | h <;> simp [h, hnum, hdiv]
  ·have hb' : validS b.1 b.2.1 b.2.2 = false := by simpa [vS] using hb
   rw [hb', if_neg (by simp), if_neg (by simp)]; exact hbad
 ·have ha' : validS a.1 a.2.1 a.2.2 = false := by simpa [vS] using ha
  rw [ha', if_neg (by simp), if_neg (by simp)]; exact hbad
end Go.Proofs.Ytpinoobgnnlccaa.A
