/- Of the proof of AsmexprEvals: RdNamed. Conditions: those of each theorem. -/
import Derived.Test.YtpinoobgnnlccaaEAx0
namespace Go.Proofs.Ytpinoobgnnlccaa.A
open Go.RowKit Go.Proofs.YtpinoobgnnlccaaW.PrintWords Go.Proofs.YtpinoobgnnlccaaW.PrintLast Go.Proofs.YtpinoobgnnlccaaW.PrintMore
attribute [local go_sem] max2_int min2_int max_two min_two max_three min_three max_four min_four
set_option linter.unusedVariables false
set_option linter.unusedSimpArgs false
set_option maxHeartbeats 8000000 in
set_option maxRecDepth 100000 in
theorem find14_c (k : Nat) (A0 : Option Addr) (c0 : Nat) (l0 : List (S44)) (a1 : ByteArray) (r : Int) (w : World) (hr0 : Kd.C k44 w A0 l0.length l0) (h : asmexpr_Find.f k l0 a1 = some r) :
  Calls Try.prog 14 #[.slice A0 l0.length c0, .string a1] w fun e w' => e = .returned (.int .i64 r) ∧ Below w.heap.size w w' := by
 have hu44 := Try.underlying44
 have HR0 := Aside0.mk hr0
 clear hr0
 have HB := Aside0.mk (Below.refl w.heap.size w)
 have H : (asmexpr_Find.l0 k a1 l0 (l0.length : Int) 0) = some r := h
 clear h
 have H' := Aside0.mk H
 clear H
 go_enter Try.func14, Try.ntmps14
 go_wp2
 go_loopg [9] k (fun kq v9 w' => ∃ (x9_1 : Int), v9 = .int .i64 x9_1 ∧ Aside0 (asmexpr_Find.l0 kq a1 l0 (l0.length : Int) x9_1 = some r) ∧ Aside0 (kq ≤ k) ∧ Aside0 (Below w.heap.size w w'))
 case atStart => exact ⟨(0), (by first | rfl | (simp; done) | (simp [*]; done)), H', ⟨Nat.le_refl _⟩, ⟨by repeat (first|(with_reducible first | exact HB.out | apply below_alloc | apply pw_below_drewN | apply below_drew1) | exact HB.out)⟩⟩
 case round =>
  clear H'
  try clear c1
  try clear p2
  obtain ⟨x9_1, rfl, HA, HK1, HB⟩ := hrel
  cases gk with
  | zero => exact absurd HA.out (by simp [asmexpr_Find.l0])
  | succ k1 =>
   have H := HA.out
   clear HA
   simp only [asmexpr_Find.l0] at H
   by_cases c3 : x9_1 < (l0.length : Int)
   ·rw [if_pos c3] at H
    have c3b0 : decide (x9_1 < (l0.length : Int)) = true := decide_eq_true c3
    clear c3
    by_cases c4 : 0 ≤ x9_1
    ·rw [if_pos c4] at H
     have c4b0 : decide (0 ≤ x9_1) = true := decide_eq_true c4
     clear c4
     by_cases c5 : x9_1 < (l0.length : Int)
     ·rw [if_pos c5] at H
      have c5b0 : decide (x9_1 < (l0.length : Int)) = true := decide_eq_true c5
      clear c5
      by_cases c6 : ((rd_T44 l0 x9_1).f0).toList = a1.toList
      ·rw [if_pos c6] at H
       have c6b0 : (((rd_T44 l0 x9_1).f0).toList == a1.toList) = true := beq_iff_eq.mpr c6
       have c6b1 : (((rd_T44 l0 x9_1).f0).toList != a1.toList) = false := bne_eq_false_iff_eq.mpr c6
       clear c6
       obtain rfl := Option.some.inj H
       have p101 : 0 ≤ (x9_1 : Int) := of_decide_eq_true (by first|(with_reducible assumption) | assumption)
       have q101 : x9_1 < (l0.length : Int) := of_decide_eq_true (by first|(with_reducible assumption) | assumption)
       obtain ⟨ad101, e101, hx101_0, hx101_1, hx101_2, hx101_3⟩ := at_T44 HR0.out x9_1 p101 q101
       cases e101
       replace hx101_0 := (HB.out.cell (World.block_lt_of_cell? w _ hx101_0)).trans hx101_0
       replace hx101_1 := (HB.out.cell (World.block_lt_of_cell? w _ hx101_1)).trans hx101_1
       replace hx101_2 := (HB.out.cell (World.block_lt_of_cell? w _ hx101_2)).trans hx101_2
       replace hx101_3 := (HB.out.cell (World.block_lt_of_cell? w _ hx101_3)).trans hx101_3
       replace p101 := eq_true p101
       replace q101 := eq_true q101
       go_wp2_with (first | ((with_reducible refine gate_dst (N := 6) rfl ?_); refine box_event ?hg (N := 6) ?hd (cs := #[.string (⟨#[]⟩ : ByteArray), .int .i64 0, .int .i64 0, .bool false]) (t := 44) ?hr ?_; (case hd => rfl); (case hg => rfl); (case hr => first | (go_simp; done) | (go_simp; rfl)); intro gb102 hg w7 hbox hb; have n0_ := Aside0.mk (below_step (by repeat (first|(with_reducible first | exact HB.out | apply below_alloc | apply pw_below_drewN | apply below_drew1) | exact HB.out)) hb); have n1_ := Aside0.mk (hbox); have n2_ := Aside0.mk ((by rw [hg]; exact (below_size (by repeat (first|(with_reducible first | exact HB.out | apply below_alloc | apply pw_below_drewN | apply below_drew1) | exact HB.out))) : w.heap.size ≤ gb102)); have n3_ := n2_; clear HB; have HB := n0_; have BK102 := n1_; have GW102 := n2_; have GE102 := n3_; clear n0_ n1_ n2_ n3_; clear hb hbox hg; have hcz8_0 : w7.cell? ⟨gb102, 0, none⟩ = some (.string (⟨#[]⟩ : ByteArray)) := (blk_cell BK102.out 0).trans rfl; have hcz8_1 : w7.cell? ⟨gb102, 1, none⟩ = some (.int .i64 0) := (blk_cell BK102.out 1).trans rfl; have hcz8_2 : w7.cell? ⟨gb102, 2, none⟩ = some (.int .i64 0) := (blk_cell BK102.out 2).trans rfl; have hcz8_3 : w7.cell? ⟨gb102, 3, none⟩ = some (.bool false) := (blk_cell BK102.out 3).trans rfl; have hfz8_0 := blk_frozen BK102.out 0; have hfz8_1 := blk_frozen BK102.out 1; have hfz8_2 := blk_frozen BK102.out 2; have hfz8_3 := blk_frozen BK102.out 3))
       go_ret
       exact ⟨by first | rfl | (simp [errW_none, errW_some] <;> rfl) | (simp [*, errW_none, errW_some] <;> rfl), by repeat (first|(with_reducible first | exact HB.out | apply below_alloc | apply pw_below_drewN | apply below_drew1 | refine below_set ?_ GE102.out) | exact HB.out)⟩
      ·rw [if_neg c6] at H
       have c6b0 : (((rd_T44 l0 x9_1).f0).toList == a1.toList) = false := beq_eq_false_iff_ne.mpr c6
       have c6b1 : (((rd_T44 l0 x9_1).f0).toList != a1.toList) = true := bne_iff_ne.mpr c6
       have H' := Aside0.mk H
       clear H
       have p101 : 0 ≤ (x9_1 : Int) := of_decide_eq_true (by first|(with_reducible assumption) | assumption)
       have q101 : x9_1 < (l0.length : Int) := of_decide_eq_true (by first|(with_reducible assumption) | assumption)
       obtain ⟨ad101, e101, hx101_0, hx101_1, hx101_2, hx101_3⟩ := at_T44 HR0.out x9_1 p101 q101
       cases e101
       replace hx101_0 := (HB.out.cell (World.block_lt_of_cell? w _ hx101_0)).trans hx101_0
       replace hx101_1 := (HB.out.cell (World.block_lt_of_cell? w _ hx101_1)).trans hx101_1
       replace hx101_2 := (HB.out.cell (World.block_lt_of_cell? w _ hx101_2)).trans hx101_2
       replace hx101_3 := (HB.out.cell (World.block_lt_of_cell? w _ hx101_3)).trans hx101_3
       replace p101 := eq_true p101
       replace q101 := eq_true q101
       go_wp2_with (first | ((with_reducible refine gate_dst (N := 6) rfl ?_); refine box_event ?hg (N := 6) ?hd (cs := #[.string (⟨#[]⟩ : ByteArray), .int .i64 0, .int .i64 0, .bool false]) (t := 44) ?hr ?_; (case hd => rfl); (case hg => rfl); (case hr => first | (go_simp; done) | (go_simp; rfl)); intro gb102 hg w9 hbox hb; have n0_ := Aside0.mk (below_step (by repeat (first|(with_reducible first | exact HB.out | apply below_alloc | apply pw_below_drewN | apply below_drew1) | exact HB.out)) hb); have n1_ := Aside0.mk (hbox); have n2_ := Aside0.mk ((by rw [hg]; exact (below_size (by repeat (first|(with_reducible first | exact HB.out | apply below_alloc | apply pw_below_drewN | apply below_drew1) | exact HB.out))) : w.heap.size ≤ gb102)); have n3_ := n2_; clear HB; have HB := n0_; have BK102 := n1_; have GW102 := n2_; have GE102 := n3_; clear n0_ n1_ n2_ n3_; clear hb hbox hg; have hcz10_0 : w9.cell? ⟨gb102, 0, none⟩ = some (.string (⟨#[]⟩ : ByteArray)) := (blk_cell BK102.out 0).trans rfl; have hcz10_1 : w9.cell? ⟨gb102, 1, none⟩ = some (.int .i64 0) := (blk_cell BK102.out 1).trans rfl; have hcz10_2 : w9.cell? ⟨gb102, 2, none⟩ = some (.int .i64 0) := (blk_cell BK102.out 2).trans rfl; have hcz10_3 : w9.cell? ⟨gb102, 3, none⟩ = some (.bool false) := (blk_cell BK102.out 3).trans rfl; have hfz10_0 := blk_frozen BK102.out 0; have hfz10_1 := blk_frozen BK102.out 1; have hfz10_2 := blk_frozen BK102.out 2; have hfz10_3 := blk_frozen BK102.out 3))
       go_roundg k1
       case measure => have := HK1.out; omega
       case rel => exact ⟨(wrap64 (x9_1 + 1)), (by first | rfl | (simp; done) | (simp [*]; done)), H', ⟨by have := HK1.out; omega⟩, ⟨by repeat (first|(with_reducible first | exact HB.out | apply below_alloc | apply pw_below_drewN | apply below_drew1 | refine below_set ?_ GE102.out) | exact HB.out)⟩⟩
     ·rw [if_neg c5] at H
      exact absurd H (by simp)
    ·rw [if_neg c4] at H
     exact absurd H (by simp)
   ·rw [if_neg c3] at H
    have c3b0 : decide (x9_1 < (l0.length : Int)) = false := decide_eq_false c3
    clear c3
    obtain rfl := Option.some.inj H
    go_wp2
    go_ret
    exact ⟨by first | rfl | (simp [errW_none, errW_some] <;> rfl) | (simp [*, errW_none, errW_some] <;> rfl), by repeat (first|(with_reducible first | exact HB.out | apply below_alloc | apply pw_below_drewN | apply below_drew1) | exact HB.out)⟩
def sub3F (a0_0 : Int) (a0_1 : ByteArray) (a0_2 : Int) (a1_0 : Int) (a1_1 : ByteArray) (a1_2 : Int) : Option (Int × ByteArray × Int × Int) :=
 some ((subS (a0_0, a0_1, a0_2) (a1_0, a1_1, a1_2)).1.1, (subS (a0_0, a0_1, a0_2) (a1_0, a1_1, a1_2)).1.2.1, (subS (a0_0, a0_1, a0_2) (a1_0, a1_1, a1_2)).1.2.2, (subS (a0_0, a0_1, a0_2) (a1_0, a1_1, a1_2)).2)
theorem sub3_c (a0_0 : Int) (a0_1 : ByteArray) (a0_2 : Int) (a1_0 : Int) (a1_1 : ByteArray) (a1_2 : Int) (r1 : Int) (r2 : ByteArray) (r3 : Int) (r4 : Int) (w : World) (h : sub3F a0_0 a0_1 a0_2 a1_0 a1_1 a1_2 = some (r1, r2, r3, r4)) :
  Calls Try.prog 40 #[.agg #[.int .i64 a0_0, .string a0_1, .int .i64 a0_2], .agg #[.int .i64 a1_0, .string a1_1, .int .i64 a1_2]] w fun e w' => e = .returned (.tuple #[.agg #[.int .i64 r1, .string r2, .int .i64 r3], .int .i64 r4]) ∧ Below w.heap.size w w' := by
 unfold sub3F at h
 simp only [Option.some.injEq, Prod.mk.injEq] at h
 obtain ⟨rfl, rfl, rfl, rfl⟩ := h
 exact sub_v (a0_0, a0_1, a0_2) (a1_0, a1_1, a1_2) w
def wrapF (n : Int) : Option Int := some (wrp n)
theorem wrap3_c (a0 : Int) (r : Int) (w : World) (h : wrapF a0 = some r) : Calls Try.prog 48 #[.int .i64 a0] w fun e w' => e = .returned (.int .i64 r) ∧ Drawn0 w w' := by
 obtain rfl := Option.some.inj h
 exact (wrap_v a0 w).mono fun e w' ⟨he, hw⟩ => ⟨he, by rw [hw]; exact Drawn0.refl _⟩
def namF (s0_0 : List (S38)) (s0_1 : Int) (s0_2 : List (S44)) (s0_3 : Int) (s0_4 : ByteArray) (s0_5 : Int) (a1 : ByteArray) : Option (Int × ByteArray × Int × Int × Int × ByteArray × Int) :=
 if s0_2.length ≤ 1000 then some ((namedS s0_2 a1).1, (namedS s0_2 a1).2.1, (namedS s0_2 a1).2.2, s0_1, s0_3, s0_4, s0_5) else none
theorem find_l (S : List S44) (s : ByteArray) (hS : S.length ≤ 1000) : ∀ (k i : Nat), i ≤ S.length → S.length - i < k → asmexpr_Find.l0 k s S (S.length : Int) (i : Int) = some (findFrom s (S.drop i) i) := by
 intro k
 induction k with
 | zero => intro i _ h; omega
 | succ k ih =>
  intro i hi hk
  rw [asmexpr_Find.l0]
  by_cases h : i < S.length
  ·have hd : S.drop i = S[i] :: S.drop (i + 1) := List.drop_eq_getElem_cons h
   have hr : rd_T44 S (i : Int) = S[i] := by unfold rd_T44; simp [h]
   have hw : wrap64 ((i : Int) + 1) = ((i + 1 : Nat) : Int) := by unfold wrap64; omega
   rw [if_pos (by omega), if_pos (by omega), if_pos (by omega), hd, hr, findFrom, hw]
   by_cases h2 : S[i].f0.toList = s.toList
   ·rw [if_pos h2, if_pos (by simp [h2])]
   ·rw [if_neg h2, if_neg (by simpa using h2), ih (i + 1) (by omega) (by omega)]; simp
  ·rw [if_neg (by omega), List.drop_of_length_le (by omega), findFrom]
theorem find_f (S : List S44) (s : ByteArray) (hS : S.length ≤ 1000) : asmexpr_Find.f 1001 S s = some (findFrom s S 0) := by
 unfold asmexpr_Find.f
 have := find_l S s hS 1001 0 (by omega) (by omega)
 simpa using this
def fndF (S : List S44) (s : ByteArray) : Option Int := if S.length ≤ 1000 then some (findFrom s S 0) else none
theorem fnd_c (A0 : Option Addr) (c0 : Nat) (S : List (S44)) (s : ByteArray) (r : Int) (w : World) (hr0 : Kd.C k44 w A0 S.length S) (h : fndF S s = some r) : Calls Try.prog 14 #[.slice A0 S.length c0, .string s] w fun e w' => e = .returned (.int .i64 r) ∧ Below w.heap.size w w' := by
 unfold fndF at h
 by_cases hS : S.length ≤ 1000
 ·rw [if_pos hS] at h; exact find14_c 1001 A0 c0 S s r w hr0 (by rw [find_f S s hS]; exact h)
 ·rw [if_neg hS] at h; cases h
def rdn49.f (s0_0 : List (S38)) (s0_1 : Int) (s0_2 : List (S44)) (s0_3 : Int) (s0_4 : ByteArray) (s0_5 : Int) (a1 : ByteArray) : Option (Int × ByteArray × Int × Int × Int × ByteArray × Int) := (fndF s0_2 a1).bind fun t103 => (if t103 ≥ 0 then (if 0 ≤ t103 then (if t103 < (s0_2.length : Int) then (if ((rd_T44 s0_2 t103).f1) ≥ 0 then (if ((rd_T44 s0_2 t103).f1) ≤ 3 then ((wrapF ((rd_T44 s0_2 t103).f2)).bind fun t106 => (some ((rd_T44 s0_2 t103).f1, (⟨#[]⟩ : ByteArray), t106, s0_1, s0_3, s0_4, s0_5))) else (some (4, a1, 0, s0_1, s0_3, s0_4, s0_5))) else (some (4, a1, 0, s0_1, s0_3, s0_4, s0_5))) else (none)) else (none)) else (some (4, a1, 0, s0_1, s0_3, s0_4, s0_5)))
set_option maxHeartbeats 8000000 in
set_option maxRecDepth 100000 in
theorem rdn49.calls (g : Nat) (s0_0 : List (S38)) (s0_1 : Int) (s0_2 : List (S44)) (s0_3 : Int) (s0_4 : ByteArray) (s0_5 : Int) (a1 : ByteArray) (r1 : Int) (r2 : ByteArray) (r3 : Int) (r4 : Int) (r5 : Int) (r6 : ByteArray) (r7 : Int) (w0 w : World) (hI : IsS53 w0 w g s0_0 s0_1 s0_2 s0_3 s0_4 s0_5) (hB : Below w0.heap.size w0 w) (h : rdn49.f s0_0 s0_1 s0_2 s0_3 s0_4 s0_5 a1 = some (r1, r2, r3, r4, r5, r6, r7)) :
  Calls Try.prog 49 #[.pointer (some ⟨g, 0, none⟩), .string a1] w fun e w' => e = .returned (.agg #[.int .i64 r1, .string r2, .int .i64 r3]) ∧ IsS53 w0 w' g s0_0 r4 s0_2 r5 r6 r7 ∧ Below w0.heap.size w0 w' ∧ KeepBut w w' g none := by
 have hu54 := Try.underlying54
 have hu44 := Try.underlying44
 have HI0 := Aside0.mk hI
 have HK := Aside0.mk (KeepBut.refl w g none)
 have HL := Aside0.mk hB.size
 clear hI
 have HW0 := Aside0.mk hB.size
 have HB := Aside0.mk hB
 clear hB
 have H : ((fndF s0_2 a1).bind fun t103 => (if t103 ≥ 0 then (if 0 ≤ t103 then (if t103 < (s0_2.length : Int) then (if ((rd_T44 s0_2 t103).f1) ≥ 0 then (if ((rd_T44 s0_2 t103).f1) ≤ 3 then ((wrapF ((rd_T44 s0_2 t103).f2)).bind fun t106 => (some ((rd_T44 s0_2 t103).f1, (⟨#[]⟩ : ByteArray), t106, s0_1, s0_3, s0_4, s0_5))) else (some (4, a1, 0, s0_1, s0_3, s0_4, s0_5))) else (some (4, a1, 0, s0_1, s0_3, s0_4, s0_5))) else (none)) else (none)) else (some (4, a1, 0, s0_1, s0_3, s0_4, s0_5)))) = some (r1, r2, r3, r4, r5, r6, r7) := h
 clear h
 replace H := Option.bind_eq_some_iff.mp H
 obtain ⟨t103, A30, H⟩ := H
 replace H : (if t103 ≥ 0 then (if 0 ≤ t103 then (if t103 < (s0_2.length : Int) then (if ((rd_T44 s0_2 t103).f1) ≥ 0 then (if ((rd_T44 s0_2 t103).f1) ≤ 3 then ((wrapF ((rd_T44 s0_2 t103).f2)).bind fun t106 => (some ((rd_T44 s0_2 t103).f1, (⟨#[]⟩ : ByteArray), t106, s0_1, s0_3, s0_4, s0_5))) else (some (4, a1, 0, s0_1, s0_3, s0_4, s0_5))) else (some (4, a1, 0, s0_1, s0_3, s0_4, s0_5))) else (none)) else (none)) else (some (4, a1, 0, s0_1, s0_3, s0_4, s0_5))) = some (r1, r2, r3, r4, r5, r6, r7) := H
 have A3 := Aside0.mk A30
 clear A30
 by_cases c4 : t103 ≥ 0
 ·rw [if_pos c4] at H
  have c4b0 : decide (0 ≤ t103) = true := decide_eq_true c4
  clear c4
  by_cases c5 : 0 ≤ t103
  ·rw [if_pos c5] at H
   have c5b0 : decide (0 ≤ t103) = true := decide_eq_true c5
   clear c5
   by_cases c6 : t103 < (s0_2.length : Int)
   ·rw [if_pos c6] at H
    have c6b0 : decide (t103 < (s0_2.length : Int)) = true := decide_eq_true c6
    clear c6
    by_cases c7 : ((rd_T44 s0_2 t103).f1) ≥ 0
    ·rw [if_pos c7] at H
     have c7b0 : decide (0 ≤ ((rd_T44 s0_2 t103).f1)) = true := decide_eq_true c7
     clear c7
     by_cases c8 : ((rd_T44 s0_2 t103).f1) ≤ 3
     ·rw [if_pos c8] at H
      have c8b0 : decide (((rd_T44 s0_2 t103).f1) ≤ 3) = true := decide_eq_true c8
      clear c8
      replace H := Option.bind_eq_some_iff.mp H
      obtain ⟨t106, A90, H⟩ := H
      replace H : (some ((rd_T44 s0_2 t103).f1, (⟨#[]⟩ : ByteArray), t106, s0_1, s0_3, s0_4, s0_5)) = some (r1, r2, r3, r4, r5, r6, r7) := H
      have A9 := Aside0.mk A90
      clear A90
      simp only [Option.some.injEq, Prod.mk.injEq] at H
      obtain ⟨rfl, rfl, rfl, rfl, rfl, rfl, rfl⟩ := H
      go_enter Try.func49, Try.ntmps49
      try go_wp2_with (first | ((with_reducible refine gate_dst (N := 4) rfl ?_); refine box_event ?hg (N := 4) ?hd (cs := #[.int .i64 0, .string (⟨#[]⟩ : ByteArray), .int .i64 0]) (t := 54) ?hr ?_; (case hd => rfl); (case hg => rfl); (case hr => first | (go_simp; done) | (go_simp; rfl)); intro gb102 hg w10 hbox hb; have n0_ := Aside0.mk (IsS53.below (by repeat (first|(with_reducible first | exact HI0.out | apply IsS53.alloc | apply IsS53.drewN | apply IsS53.drew | apply IsS53.set_1 | apply IsS53.set_3 | apply IsS53.set_4 | apply IsS53.set_5) | exact HI0.out)) hb); have n1_ := Aside0.mk (KeepBut.trans (by repeat (first|(with_reducible first | exact HK.out | apply KeepBut.set_ | apply keep_drewN | apply keep_drew | apply keep_alloc) | exact HK.out)) (KeepBut.of_below hb g none) (.inl rfl)); have n2_ := Aside0.mk (below_step (by repeat (first|(with_reducible first | exact HB.out | apply below_alloc | apply pw_below_drewN | apply below_drew1 | refine below_set ?_ (IsS53.ge HI0.out)) | exact HB.out)) hb); have n3_ := Aside0.mk (hbox); have n4_ := Aside0.mk ((by rw [hg]; exact (keep_size (w := w) (g := g) (row := none) (by repeat (first|(with_reducible first | exact HK.out | apply KeepBut.set_ | apply keep_drewN | apply keep_drew | apply keep_alloc) | exact HK.out))) : w.heap.size ≤ gb102)); have n5_ := Aside0.mk ((Nat.le_trans HW0.out (by rw [hg]; exact (keep_size (w := w) (g := g) (row := none) (by repeat (first|(with_reducible first | exact HK.out | apply KeepBut.set_ | apply keep_drewN | apply keep_drew | apply keep_alloc) | exact HK.out))) : w.heap.size ≤ gb102) : w0.heap.size ≤ gb102)); have n6_ := Aside0.mk ((by rw [hg]; exact Nat.ne_of_lt (IsS53.lt (show IsS53 w0 _ g s0_0 s0_1 s0_2 s0_3 s0_4 s0_5 from by repeat (first|(with_reducible first | exact HI0.out | apply IsS53.alloc | apply IsS53.drewN | apply IsS53.drew | apply IsS53.set_1 | apply IsS53.set_3 | apply IsS53.set_4 | apply IsS53.set_5) | exact HI0.out))) : g ≠ gb102)); have n7_ := Aside0.mk ((by rw [hg]; exact Nat.ne_of_gt (IsS53.lt (show IsS53 w0 _ g s0_0 s0_1 s0_2 s0_3 s0_4 s0_5 from by repeat (first|(with_reducible first | exact HI0.out | apply IsS53.alloc | apply IsS53.drewN | apply IsS53.drew | apply IsS53.set_1 | apply IsS53.set_3 | apply IsS53.set_4 | apply IsS53.set_5) | exact HI0.out))) : gb102 ≠ g)); clear HI0; clear HK; clear HB; have HI0 := n0_; have HK := n1_; have HB := n2_; have BK102 := n3_; have GW102 := n4_; have GE102 := n5_; have NB0_102 := n6_; have NB102_0 := n7_; clear n0_ n1_ n2_ n3_ n4_ n5_ n6_ n7_; clear hb hbox hg; obtain ⟨ASz11_0, cSz11_0, ASz11_2, cSz11_2, HGz11, hgz11, HSz11_0, HSz11_2⟩ := HI0.out; have hcz11_0 := cellS53_0 HGz11; have hcz11_1 := cellS53_1 HGz11; have hcz11_2 := cellS53_2 HGz11; have hcz11_3 := cellS53_3 HGz11; have hcz11_4 := cellS53_4 HGz11; have hcz11_5 := cellS53_5 HGz11; have hfz11_1 := blk_frozen HGz11 1; have hfz11_3 := blk_frozen HGz11 3; have hfz11_4 := blk_frozen HGz11 4; have hfz11_5 := blk_frozen HGz11 5; clear HGz11 hgz11) | ((with_reducible refine gate_callee (f := 14) rfl ?_); refine goesL_ (some 12) rfl rfl Try.func14 (by kernel_rfl) rfl #[.slice ASz11_2 s0_2.length cSz11_2, .string a1] rfl (by (try simp only [List.map_toArray, List.map_cons, List.map_nil]); first | done | rfl | (simp only [List.length_drop, List.length_take]; rfl)) ?_; (with_reducible refine (fnd_c _ _ s0_2 a1 t103 _ (Kd.C_below HSz11_2 HB.out) A3.out).mono ?_); rintro e w12 ⟨rfl, hb⟩; refine ⟨_, rfl, ?_⟩; have n0_ := Aside0.mk (IsS53.below (by repeat (first|(with_reducible first | exact HI0.out | apply IsS53.alloc | apply IsS53.drewN | apply IsS53.drew | apply IsS53.set_1 | apply IsS53.set_3 | apply IsS53.set_4 | apply IsS53.set_5 | refine IsS53.far ?_ NB0_102.out _) | exact HI0.out)) hb); have n1_ := Aside0.mk (blk_below (by (with_reducible repeat(first|apply bN|apply bD)); exact BK102.out) hb); have n2_ := Aside0.mk (KeepBut.trans (by repeat (first|(with_reducible first | exact HK.out | apply KeepBut.set_ | apply keep_drewN | apply keep_drew | apply keep_alloc | refine keep_far ?_ GW102.out _) | exact HK.out)) (KeepBut.of_below hb g none) (.inl rfl)); have n3_ := Aside0.mk (below_step (by repeat (first|(with_reducible first | exact HB.out | apply below_alloc | apply pw_below_drewN | apply below_drew1 | refine below_set ?_ (IsS53.ge HI0.out) | refine below_set ?_ GE102.out) | exact HB.out)) hb); clear HI0; clear BK102; clear HK; clear HB; have HI0 := n0_; have BK102 := n1_; have HK := n2_; have HB := n3_; clear n0_ n1_ n2_ n3_; (try clear hb); (try clear hb2); (try clear hk); (try clear hi); obtain ⟨ASz13_0, cSz13_0, ASz13_2, cSz13_2, HGz13, hgz13, HSz13_0, HSz13_2⟩ := HI0.out; have hcz13_0 := cellS53_0 HGz13; have hcz13_1 := cellS53_1 HGz13; have hcz13_2 := cellS53_2 HGz13; have hcz13_3 := cellS53_3 HGz13; have hcz13_4 := cellS53_4 HGz13; have hcz13_5 := cellS53_5 HGz13; have hfz13_1 := blk_frozen HGz13 1; have hfz13_3 := blk_frozen HGz13 3; have hfz13_4 := blk_frozen HGz13 4; have hfz13_5 := blk_frozen HGz13 5; clear HGz13 hgz13; have p104 : 0 ≤ (t103 : Int) := of_decide_eq_true (by first|(with_reducible assumption) | assumption); have q104 : t103 < (s0_2.length : Int) := of_decide_eq_true (by first|(with_reducible assumption) | assumption); obtain ⟨ad104, e104, hx104_0, hx104_1, hx104_2, hx104_3⟩ := at_T44 HSz13_2 t103 p104 q104; cases e104; replace hx104_0 := pw_cell_below HB.out hx104_0; replace hx104_1 := pw_cell_below HB.out hx104_1; replace hx104_2 := pw_cell_below HB.out hx104_2; replace hx104_3 := pw_cell_below HB.out hx104_3; replace p104 := eq_true p104; replace q104 := eq_true q104) | ((with_reducible refine gate_dst (N := 6) rfl ?_); refine box_event ?hg (N := 6) ?hd (cs := #[.string (⟨#[]⟩ : ByteArray), .int .i64 0, .int .i64 0, .bool false]) (t := 44) ?hr ?_; (case hd => rfl); (case hg => rfl); (case hr => first | (go_simp; done) | (go_simp; rfl)); intro gb105 hg w14 hbox hb; have n0_ := Aside0.mk (IsS53.below (by repeat (first|(with_reducible first | exact HI0.out | apply IsS53.alloc | apply IsS53.drewN | apply IsS53.drew | apply IsS53.set_1 | apply IsS53.set_3 | apply IsS53.set_4 | apply IsS53.set_5 | refine IsS53.far ?_ NB0_102.out _) | exact HI0.out)) hb); have n1_ := Aside0.mk (blk_below (by (with_reducible repeat(first|apply bN|apply bD)); exact BK102.out) hb); have n2_ := Aside0.mk (KeepBut.trans (by repeat (first|(with_reducible first | exact HK.out | apply KeepBut.set_ | apply keep_drewN | apply keep_drew | apply keep_alloc | refine keep_far ?_ GW102.out _) | exact HK.out)) (KeepBut.of_below hb g none) (.inl rfl)); have n3_ := Aside0.mk (below_step (by repeat (first|(with_reducible first | exact HB.out | apply below_alloc | apply pw_below_drewN | apply below_drew1 | refine below_set ?_ (IsS53.ge HI0.out) | refine below_set ?_ GE102.out) | exact HB.out)) hb); have n4_ := Aside0.mk (hbox); have n5_ := Aside0.mk ((by rw [hg]; exact (keep_size (w := w) (g := g) (row := none) (by repeat (first|(with_reducible first | exact HK.out | apply KeepBut.set_ | apply keep_drewN | apply keep_drew | apply keep_alloc | refine keep_far ?_ GW102.out _) | exact HK.out))) : w.heap.size ≤ gb105)); have n6_ := Aside0.mk ((Nat.le_trans HW0.out (by rw [hg]; exact (keep_size (w := w) (g := g) (row := none) (by repeat (first|(with_reducible first | exact HK.out | apply KeepBut.set_ | apply keep_drewN | apply keep_drew | apply keep_alloc | refine keep_far ?_ GW102.out _) | exact HK.out))) : w.heap.size ≤ gb105) : w0.heap.size ≤ gb105)); have n7_ := Aside0.mk ((by rw [hg]; exact Nat.ne_of_lt (blk_lt (by (with_reducible repeat(first|apply bN|apply bD)); exact BK102.out)) : gb102 ≠ gb105)); have n8_ := Aside0.mk n7_.out.symm; have n9_ := Aside0.mk ((by rw [hg]; exact Nat.ne_of_lt (IsS53.lt (show IsS53 w0 _ g s0_0 s0_1 s0_2 s0_3 s0_4 s0_5 from by repeat (first|(with_reducible first | exact HI0.out | apply IsS53.alloc | apply IsS53.drewN | apply IsS53.drew | apply IsS53.set_1 | apply IsS53.set_3 | apply IsS53.set_4 | apply IsS53.set_5 | refine IsS53.far ?_ NB0_102.out _) | exact HI0.out))) : g ≠ gb105)); have n10_ := Aside0.mk ((by rw [hg]; exact Nat.ne_of_gt (IsS53.lt (show IsS53 w0 _ g s0_0 s0_1 s0_2 s0_3 s0_4 s0_5 from by repeat (first|(with_reducible first | exact HI0.out | apply IsS53.alloc | apply IsS53.drewN | apply IsS53.drew | apply IsS53.set_1 | apply IsS53.set_3 | apply IsS53.set_4 | apply IsS53.set_5 | refine IsS53.far ?_ NB0_102.out _) | exact HI0.out))) : gb105 ≠ g)); clear HI0; clear BK102; clear HK; clear HB; have HI0 := n0_; have BK102 := n1_; have HK := n2_; have HB := n3_; have BK105 := n4_; have GW105 := n5_; have GE105 := n6_; have NB102_105 := n7_; have NB105_102 := n8_; have NB0_105 := n9_; have NB105_0 := n10_; clear n0_ n1_ n2_ n3_ n4_ n5_ n6_ n7_ n8_ n9_ n10_; clear hb hbox hg; have hnb15 := NB105_102.out; have hnc15 := NB102_105.out; have hnb16 := NB105_0.out; have hnc16 := NB0_105.out; have hcz17_0 : w14.cell? ⟨gb105, 0, none⟩ = some (.string (⟨#[]⟩ : ByteArray)) := (blk_cell BK105.out 0).trans rfl; have hcz17_1 : w14.cell? ⟨gb105, 1, none⟩ = some (.int .i64 0) := (blk_cell BK105.out 1).trans rfl; have hcz17_2 : w14.cell? ⟨gb105, 2, none⟩ = some (.int .i64 0) := (blk_cell BK105.out 2).trans rfl; have hcz17_3 : w14.cell? ⟨gb105, 3, none⟩ = some (.bool false) := (blk_cell BK105.out 3).trans rfl; have hfz17_0 := blk_frozen BK105.out 0; have hfz17_1 := blk_frozen BK105.out 1; have hfz17_2 := blk_frozen BK105.out 2; have hfz17_3 := blk_frozen BK105.out 3))
      have n0_ : Aside0 (((((w14.setCell ⟨gb105, 0, none⟩ (.string ((rd_T44 s0_2 t103).f0))).setCell ⟨gb105, 1, none⟩ (.int .i64 ((rd_T44 s0_2 t103).f1))).setCell ⟨gb105, 2, none⟩ (.int .i64 ((rd_T44 s0_2 t103).f2))).setCell ⟨gb105, 3, none⟩ (.bool ((rd_T44 s0_2 t103).f3))).heap[gb102]? = some (.cells #[.int .i64 0, .string (⟨#[]⟩ : ByteArray), .int .i64 0] 54 (0, 0))) := ⟨by (with_reducible repeat(first|apply bN|apply bD)); refine blk_far ?_ NB102_105.out _; (with_reducible repeat(first|apply bN|apply bD)); refine blk_far ?_ NB102_105.out _; (with_reducible repeat(first|apply bN|apply bD)); refine blk_far ?_ NB102_105.out _; (with_reducible repeat(first|apply bN|apply bD)); refine blk_far ?_ NB102_105.out _; (with_reducible repeat(first|apply bN|apply bD)); exact BK102.out⟩
      have n1_ : Aside0 (((((w14.setCell ⟨gb105, 0, none⟩ (.string ((rd_T44 s0_2 t103).f0))).setCell ⟨gb105, 1, none⟩ (.int .i64 ((rd_T44 s0_2 t103).f1))).setCell ⟨gb105, 2, none⟩ (.int .i64 ((rd_T44 s0_2 t103).f2))).setCell ⟨gb105, 3, none⟩ (.bool ((rd_T44 s0_2 t103).f3))).heap[gb105]? = some (.cells #[.string ((rd_T44 s0_2 t103).f0), .int .i64 ((rd_T44 s0_2 t103).f1), .int .i64 ((rd_T44 s0_2 t103).f2), .bool ((rd_T44 s0_2 t103).f3)] 44 (0, 0))) := ⟨by (with_reducible repeat(first|apply bN|apply bD)); refine blk_put (cs := #[.string ((rd_T44 s0_2 t103).f0), .int .i64 ((rd_T44 s0_2 t103).f1), .int .i64 ((rd_T44 s0_2 t103).f2), .bool false]) ?_ 3 _ rfl; (with_reducible repeat(first|apply bN|apply bD)); refine blk_put (cs := #[.string ((rd_T44 s0_2 t103).f0), .int .i64 ((rd_T44 s0_2 t103).f1), .int .i64 0, .bool false]) ?_ 2 _ rfl; (with_reducible repeat(first|apply bN|apply bD)); refine blk_put (cs := #[.string ((rd_T44 s0_2 t103).f0), .int .i64 0, .int .i64 0, .bool false]) ?_ 1 _ rfl; (with_reducible repeat(first|apply bN|apply bD)); refine blk_put (cs := #[.string (⟨#[]⟩ : ByteArray), .int .i64 0, .int .i64 0, .bool false]) ?_ 0 _ rfl; (with_reducible repeat(first|apply bN|apply bD)); exact BK105.out⟩
      have n2_ : Aside0 (IsS53 w0 ((((w14.setCell ⟨gb105, 0, none⟩ (.string ((rd_T44 s0_2 t103).f0))).setCell ⟨gb105, 1, none⟩ (.int .i64 ((rd_T44 s0_2 t103).f1))).setCell ⟨gb105, 2, none⟩ (.int .i64 ((rd_T44 s0_2 t103).f2))).setCell ⟨gb105, 3, none⟩ (.bool ((rd_T44 s0_2 t103).f3))) g s0_0 s0_1 s0_2 s0_3 s0_4 s0_5) := ⟨by repeat (first|(with_reducible first | exact HI0.out | apply IsS53.alloc | apply IsS53.drewN | apply IsS53.drew | apply IsS53.set_1 | apply IsS53.set_3 | apply IsS53.set_4 | apply IsS53.set_5 | refine IsS53.far ?_ NB0_102.out _ | refine IsS53.far ?_ NB0_105.out _) | exact HI0.out)⟩
      have n3_ : Aside0 (KeepBut w ((((w14.setCell ⟨gb105, 0, none⟩ (.string ((rd_T44 s0_2 t103).f0))).setCell ⟨gb105, 1, none⟩ (.int .i64 ((rd_T44 s0_2 t103).f1))).setCell ⟨gb105, 2, none⟩ (.int .i64 ((rd_T44 s0_2 t103).f2))).setCell ⟨gb105, 3, none⟩ (.bool ((rd_T44 s0_2 t103).f3))) g none) := ⟨by repeat (first|(with_reducible first | exact HK.out | apply KeepBut.set_ | apply keep_drewN | apply keep_drew | apply keep_alloc | refine keep_far ?_ GW102.out _ | refine keep_far ?_ GW105.out _) | exact HK.out)⟩
      have n4_ : Aside0 (Below w0.heap.size w0 ((((w14.setCell ⟨gb105, 0, none⟩ (.string ((rd_T44 s0_2 t103).f0))).setCell ⟨gb105, 1, none⟩ (.int .i64 ((rd_T44 s0_2 t103).f1))).setCell ⟨gb105, 2, none⟩ (.int .i64 ((rd_T44 s0_2 t103).f2))).setCell ⟨gb105, 3, none⟩ (.bool ((rd_T44 s0_2 t103).f3)))) := ⟨by repeat (first|(with_reducible first | exact HB.out | apply below_alloc | apply pw_below_drewN | apply below_drew1 | refine below_set ?_ (IsS53.ge HI0.out) | refine below_set ?_ GE102.out | refine below_set ?_ GE105.out) | exact HB.out)⟩
      (try clear BK102)
      (try clear BK105)
      (try clear HI0)
      (try clear HK)
      (try clear HB)
      generalize ((((w14.setCell ⟨gb105, 0, none⟩ (.string ((rd_T44 s0_2 t103).f0))).setCell ⟨gb105, 1, none⟩ (.int .i64 ((rd_T44 s0_2 t103).f1))).setCell ⟨gb105, 2, none⟩ (.int .i64 ((rd_T44 s0_2 t103).f2))).setCell ⟨gb105, 3, none⟩ (.bool ((rd_T44 s0_2 t103).f3))) = w18 at n0_ n1_ n2_ n3_ n4_ ⊢
      have BK102 := n0_
      have BK105 := n1_
      have HI0 := n2_
      have HK := n3_
      have HB := n4_
      clear n0_ n1_ n2_ n3_ n4_
      have n0_ := Aside0.mk (blk_drew BK102.out)
      have n1_ := Aside0.mk (blk_drew BK105.out)
      have n2_ := Aside0.mk (IsS53.drew HI0.out)
      have n3_ := Aside0.mk (keep_drew HK.out)
      have n4_ := Aside0.mk (below_drew1 HB.out)
      clear BK102
      clear BK105
      clear HI0
      clear HK
      clear HB
      have BK102 := n0_
      have BK105 := n1_
      have HI0 := n2_
      have HK := n3_
      have HB := n4_
      clear n0_ n1_ n2_ n3_ n4_
      refine start_ (n := 7) (S := fun w' => w'.cell? ⟨gb105, 0, none⟩ = some (.string ((rd_T44 s0_2 t103).f0)) ∧ w'.cell? ⟨gb105, 1, none⟩ = some (.int .i64 ((rd_T44 s0_2 t103).f1)) ∧ w'.cell? ⟨gb105, 2, none⟩ = some (.int .i64 ((rd_T44 s0_2 t103).f2)) ∧ w'.cell? ⟨gb105, 3, none⟩ = some (.bool ((rd_T44 s0_2 t103).f3))) (ds := []) #[false, false, false, false, false, false, false] (by kernel_rfl) rfl rfl ⟨(blk_cell BK105.out 0).trans rfl, (blk_cell BK105.out 1).trans rfl, (blk_cell BK105.out 2).trans rfl, (blk_cell BK105.out 3).trans rfl⟩ (fun hHeld => ?_)
      generalize w18.drew = w19 at BK102 BK105 HI0 HK HB hHeld ⊢
      refine pure_ (i := 0) (N := some 30) (v := ?_) (a' := ?_) #[true, false, false, false, false, false, false] rfl rfl (by kernel_rfl) (fun _ _ _ h => h) (Or.inl ⟨by rfl, ?_⟩) ?_ ?_
      rotate_left
      ·intro w'
       go_simp
       with_reducible rfl
      rotate_left
      ·simp only [Act.put, List.setIfInBounds_toArray, List.set_cons_zero, List.set_cons_succ, i64_w, i32_w]
       rfl
      refine pure_ (i := 2) (N := some 32) (v := ?_) (a' := ?_) #[true, false, true, false, false, false, false] rfl rfl (by kernel_rfl) (fun _ _ _ h => h) (Or.inl ⟨by rfl, ?_⟩) ?_ ?_
      rotate_left
      ·intro w'
       go_simp
       with_reducible rfl
      rotate_left
      ·simp only [Act.put, List.setIfInBounds_toArray, List.set_cons_zero, List.set_cons_succ, i64_w, i32_w]
       rfl
      refine take_ (i := 1) (N := some 31) (v := ?_) (a' := ?_) #[true, true, true, false, false, false, false] rfl rfl (by kernel_rfl) (fun _ _ _ h => h) (Or.inl ⟨by rfl, ?_⟩) hHeld ?_ ?_
      rotate_left
      ·rintro w' ⟨s0, s1, s2, s3⟩
       go_simp
       with_reducible rfl
      rotate_left
      ·simp only [Act.put, List.setIfInBounds_toArray, List.set_cons_zero, List.set_cons_succ, i64_w, i32_w]
       rfl
      refine take_ (i := 3) (N := some 33) (v := ?_) (a' := ?_) #[true, true, true, true, false, false, false] rfl rfl (by kernel_rfl) (fun _ _ _ h => h) (Or.inl ⟨by rfl, ?_⟩) hHeld ?_ ?_
      rotate_left
      ·rintro w' ⟨s0, s1, s2, s3⟩
       go_simp
       with_reducible rfl
      rotate_left
      ·simp only [Act.put, List.setIfInBounds_toArray, List.set_cons_zero, List.set_cons_succ, i64_w, i32_w]
       rfl
      refine one_ (i := 4) (N := some 34) #[true, true, true, true, true, false, false] rfl rfl (by kernel_rfl) (by decide) (fun K hK => ?_)
      refine goes_ Try.func48 (by kernel_rfl) rfl #[.int .i64 ((rd_T44 s0_2 t103).f2)] (by rfl) rfl rfl (by (try simp only [List.map_toArray, List.map_cons, List.map_nil]); first | done | rfl | (simp only [List.length_drop, List.length_take]; rfl)) ?_
      with_reducible refine (wrap3_c ((rd_T44 s0_2 t103).f2) t106 _ A9.out).mono ?_
      rintro e w' ⟨rfl, ⟨nd, rfl⟩⟩
      refine ⟨_, rfl, ?_⟩
      refine hK.out _ _ ⟨(blk_cell BK105.out 0).trans rfl, (blk_cell BK105.out 1).trans rfl, (blk_cell BK105.out 2).trans rfl, (blk_cell BK105.out 3).trans rfl⟩ (fun hHeld => ?_)
      clear hK K
      refine norm_ (a' := ?_) ?_ ?_
      rotate_left
      ·show Act.put _ (some 34) _ = _
       simp only [Act.put, List.setIfInBounds_toArray, List.set_cons_zero, List.set_cons_succ, i64_w, i32_w]
       rfl
      refine pure_ (i := 5) (N := some 35) (v := ?_) (a' := ?_) #[true, true, true, true, true, true, false] rfl rfl (by kernel_rfl) (fun _ _ _ h => h) (Or.inl ⟨by rfl, ?_⟩) ?_ ?_
      rotate_left
      ·intro w'
       go_simp
       with_reducible rfl
      rotate_left
      ·simp only [Act.put, List.setIfInBounds_toArray, List.set_cons_zero, List.set_cons_succ, i64_w, i32_w]
       rfl
      refine one_ (i := 6) (N := none) #[true, true, true, true, true, true, true] rfl rfl (by kernel_rfl) (by decide) (fun K hK => ?_)
      have hs20 : w19.cell? ⟨gb102, 0, none⟩ = some (.int .i64 0) := (blk_cell BK102.out 0).trans rfl
      have hfs20 := blk_frozen BK102.out 0
      have hns20_1 := NB105_102.out
      have hms20_1 := NB102_105.out
      have hs21 : w19.cell? ⟨gb102, 1, none⟩ = some (.string (⟨#[]⟩ : ByteArray)) := (blk_cell BK102.out 1).trans rfl
      have hfs21 := blk_frozen BK102.out 1
      have hns21_1 := NB105_102.out
      have hms21_1 := NB102_105.out
      have hs22 : w19.cell? ⟨gb102, 2, none⟩ = some (.int .i64 0) := (blk_cell BK102.out 2).trans rfl
      have hfs22 := blk_frozen BK102.out 2
      have hns22_1 := NB105_102.out
      have hms22_1 := NB102_105.out
      refine skip_ (w1 := ?_) (by rfl) rfl ?_ ?_
      rotate_left
      ·go_simp
       rfl
      refine hK.out _ _ ⟨((cell_far (p := ⟨gb102, _, none⟩) NB105_102.out _).trans (((cell_far (p := ⟨gb102, _, none⟩) NB105_102.out _).trans (((cell_far (p := ⟨gb102, _, none⟩) NB105_102.out _).trans (hHeld.1)))))), ((cell_far (p := ⟨gb102, _, none⟩) NB105_102.out _).trans (((cell_far (p := ⟨gb102, _, none⟩) NB105_102.out _).trans (((cell_far (p := ⟨gb102, _, none⟩) NB105_102.out _).trans (hHeld.2.1)))))), ((cell_far (p := ⟨gb102, _, none⟩) NB105_102.out _).trans (((cell_far (p := ⟨gb102, _, none⟩) NB105_102.out _).trans (((cell_far (p := ⟨gb102, _, none⟩) NB105_102.out _).trans (hHeld.2.2.1)))))), ((cell_far (p := ⟨gb102, _, none⟩) NB105_102.out _).trans (((cell_far (p := ⟨gb102, _, none⟩) NB105_102.out _).trans (((cell_far (p := ⟨gb102, _, none⟩) NB105_102.out _).trans (hHeld.2.2.2))))))⟩ (fun hHeld => ?_)
      clear hK K
      refine done_ (by kernel_rfl) ?_
      try go_wp2
      refine bodyPost_ret (results_cell_row rfl _ _ gb102 54 #[.int .i64 ((rd_T44 s0_2 t103).f1), .string (⟨#[]⟩ : ByteArray), .int .i64 t106] (0, 0) _ rfl (by (with_reducible repeat(first|apply bN|apply bD)); refine blk_put (cs := #[.int .i64 ((rd_T44 s0_2 t103).f1), .string (⟨#[]⟩ : ByteArray), .int .i64 0]) ?_ 2 _ rfl; (with_reducible repeat(first|apply bN|apply bD)); refine blk_put (cs := #[.int .i64 ((rd_T44 s0_2 t103).f1), .string (⟨#[]⟩ : ByteArray), .int .i64 0]) ?_ 1 _ rfl; (with_reducible repeat(first|apply bN|apply bD)); refine blk_put (cs := #[.int .i64 0, .string (⟨#[]⟩ : ByteArray), .int .i64 0]) ?_ 0 _ rfl; (with_reducible repeat(first|apply bN|apply bD)); exact BK102.out) Try.underlying54 rfl (by kernel_rfl)) rfl ?_
      exact ⟨by first | rfl | (simp [errW_none, errW_some] <;> rfl) | (simp [*, errW_none, errW_some] <;> rfl), by repeat (first|(with_reducible first | exact HI0.out | apply IsS53.alloc | apply IsS53.drewN | apply IsS53.drew | apply IsS53.set_1 | apply IsS53.set_3 | apply IsS53.set_4 | apply IsS53.set_5 | refine IsS53.far ?_ NB0_102.out _ | refine IsS53.far ?_ NB0_105.out _) | exact HI0.out), by repeat (first|(with_reducible first | exact HB.out | apply below_alloc | apply pw_below_drewN | apply below_drew1 | refine below_set ?_ (IsS53.ge HI0.out) | refine below_set ?_ GE102.out | refine below_set ?_ GE105.out) | exact HB.out), by repeat (first|(with_reducible first | exact HK.out | apply KeepBut.set_ | apply keep_drewN | apply keep_drew | apply keep_alloc | refine keep_far ?_ GW102.out _ | refine keep_far ?_ GW105.out _) | exact HK.out)⟩
     ·rw [if_neg c8] at H
      have c8b0 : decide (((rd_T44 s0_2 t103).f1) ≤ 3) = false := decide_eq_false c8
      clear c8
      simp only [Option.some.injEq, Prod.mk.injEq] at H
      obtain ⟨rfl, rfl, rfl, rfl, rfl, rfl, rfl⟩ := H
      go_enter Try.func49, Try.ntmps49
      go_wp2_with (first | ((with_reducible refine gate_dst (N := 4) rfl ?_); refine box_event ?hg (N := 4) ?hd (cs := #[.int .i64 0, .string (⟨#[]⟩ : ByteArray), .int .i64 0]) (t := 54) ?hr ?_; (case hd => rfl); (case hg => rfl); (case hr => first | (go_simp; done) | (go_simp; rfl)); intro gb102 hg w23 hbox hb; have n0_ := Aside0.mk (IsS53.below (by repeat (first|(with_reducible first | exact HI0.out | apply IsS53.alloc | apply IsS53.drewN | apply IsS53.drew | apply IsS53.set_1 | apply IsS53.set_3 | apply IsS53.set_4 | apply IsS53.set_5) | exact HI0.out)) hb); have n1_ := Aside0.mk (KeepBut.trans (by repeat (first|(with_reducible first | exact HK.out | apply KeepBut.set_ | apply keep_drewN | apply keep_drew | apply keep_alloc) | exact HK.out)) (KeepBut.of_below hb g none) (.inl rfl)); have n2_ := Aside0.mk (below_step (by repeat (first|(with_reducible first | exact HB.out | apply below_alloc | apply pw_below_drewN | apply below_drew1 | refine below_set ?_ (IsS53.ge HI0.out)) | exact HB.out)) hb); have n3_ := Aside0.mk (hbox); have n4_ := Aside0.mk ((by rw [hg]; exact (keep_size (w := w) (g := g) (row := none) (by repeat (first|(with_reducible first | exact HK.out | apply KeepBut.set_ | apply keep_drewN | apply keep_drew | apply keep_alloc) | exact HK.out))) : w.heap.size ≤ gb102)); have n5_ := Aside0.mk ((Nat.le_trans HW0.out (by rw [hg]; exact (keep_size (w := w) (g := g) (row := none) (by repeat (first|(with_reducible first | exact HK.out | apply KeepBut.set_ | apply keep_drewN | apply keep_drew | apply keep_alloc) | exact HK.out))) : w.heap.size ≤ gb102) : w0.heap.size ≤ gb102)); have n6_ := Aside0.mk ((by rw [hg]; exact Nat.ne_of_lt (IsS53.lt (show IsS53 w0 _ g s0_0 s0_1 s0_2 s0_3 s0_4 s0_5 from by repeat (first|(with_reducible first | exact HI0.out | apply IsS53.alloc | apply IsS53.drewN | apply IsS53.drew | apply IsS53.set_1 | apply IsS53.set_3 | apply IsS53.set_4 | apply IsS53.set_5) | exact HI0.out))) : g ≠ gb102)); have n7_ := Aside0.mk ((by rw [hg]; exact Nat.ne_of_gt (IsS53.lt (show IsS53 w0 _ g s0_0 s0_1 s0_2 s0_3 s0_4 s0_5 from by repeat (first|(with_reducible first | exact HI0.out | apply IsS53.alloc | apply IsS53.drewN | apply IsS53.drew | apply IsS53.set_1 | apply IsS53.set_3 | apply IsS53.set_4 | apply IsS53.set_5) | exact HI0.out))) : gb102 ≠ g)); clear HI0; clear HK; clear HB; have HI0 := n0_; have HK := n1_; have HB := n2_; have BK102 := n3_; have GW102 := n4_; have GE102 := n5_; have NB0_102 := n6_; have NB102_0 := n7_; clear n0_ n1_ n2_ n3_ n4_ n5_ n6_ n7_; clear hb hbox hg; obtain ⟨ASz24_0, cSz24_0, ASz24_2, cSz24_2, HGz24, hgz24, HSz24_0, HSz24_2⟩ := HI0.out; have hcz24_0 := cellS53_0 HGz24; have hcz24_1 := cellS53_1 HGz24; have hcz24_2 := cellS53_2 HGz24; have hcz24_3 := cellS53_3 HGz24; have hcz24_4 := cellS53_4 HGz24; have hcz24_5 := cellS53_5 HGz24; have hfz24_1 := blk_frozen HGz24 1; have hfz24_3 := blk_frozen HGz24 3; have hfz24_4 := blk_frozen HGz24 4; have hfz24_5 := blk_frozen HGz24 5; clear HGz24 hgz24) | ((with_reducible refine gate_callee (f := 14) rfl ?_); refine goesL_ (some 12) rfl rfl Try.func14 (by kernel_rfl) rfl #[.slice ASz24_2 s0_2.length cSz24_2, .string a1] rfl (by (try simp only [List.map_toArray, List.map_cons, List.map_nil]); first | done | rfl | (simp only [List.length_drop, List.length_take]; rfl)) ?_; (with_reducible refine (fnd_c _ _ s0_2 a1 t103 _ (Kd.C_below HSz24_2 HB.out) A3.out).mono ?_); rintro e w25 ⟨rfl, hb⟩; refine ⟨_, rfl, ?_⟩; have n0_ := Aside0.mk (IsS53.below (by repeat (first|(with_reducible first | exact HI0.out | apply IsS53.alloc | apply IsS53.drewN | apply IsS53.drew | apply IsS53.set_1 | apply IsS53.set_3 | apply IsS53.set_4 | apply IsS53.set_5 | refine IsS53.far ?_ NB0_102.out _) | exact HI0.out)) hb); have n1_ := Aside0.mk (blk_below (by (with_reducible repeat(first|apply bN|apply bD)); exact BK102.out) hb); have n2_ := Aside0.mk (KeepBut.trans (by repeat (first|(with_reducible first | exact HK.out | apply KeepBut.set_ | apply keep_drewN | apply keep_drew | apply keep_alloc | refine keep_far ?_ GW102.out _) | exact HK.out)) (KeepBut.of_below hb g none) (.inl rfl)); have n3_ := Aside0.mk (below_step (by repeat (first|(with_reducible first | exact HB.out | apply below_alloc | apply pw_below_drewN | apply below_drew1 | refine below_set ?_ (IsS53.ge HI0.out) | refine below_set ?_ GE102.out) | exact HB.out)) hb); clear HI0; clear BK102; clear HK; clear HB; have HI0 := n0_; have BK102 := n1_; have HK := n2_; have HB := n3_; clear n0_ n1_ n2_ n3_; (try clear hb); (try clear hb2); (try clear hk); (try clear hi); obtain ⟨ASz26_0, cSz26_0, ASz26_2, cSz26_2, HGz26, hgz26, HSz26_0, HSz26_2⟩ := HI0.out; have hcz26_0 := cellS53_0 HGz26; have hcz26_1 := cellS53_1 HGz26; have hcz26_2 := cellS53_2 HGz26; have hcz26_3 := cellS53_3 HGz26; have hcz26_4 := cellS53_4 HGz26; have hcz26_5 := cellS53_5 HGz26; have hfz26_1 := blk_frozen HGz26 1; have hfz26_3 := blk_frozen HGz26 3; have hfz26_4 := blk_frozen HGz26 4; have hfz26_5 := blk_frozen HGz26 5; clear HGz26 hgz26; have p104 : 0 ≤ (t103 : Int) := of_decide_eq_true (by first|(with_reducible assumption) | assumption); have q104 : t103 < (s0_2.length : Int) := of_decide_eq_true (by first|(with_reducible assumption) | assumption); obtain ⟨ad104, e104, hx104_0, hx104_1, hx104_2, hx104_3⟩ := at_T44 HSz26_2 t103 p104 q104; cases e104; replace hx104_0 := pw_cell_below HB.out hx104_0; replace hx104_1 := pw_cell_below HB.out hx104_1; replace hx104_2 := pw_cell_below HB.out hx104_2; replace hx104_3 := pw_cell_below HB.out hx104_3; replace p104 := eq_true p104; replace q104 := eq_true q104) | ((with_reducible refine gate_dst (N := 6) rfl ?_); refine box_event ?hg (N := 6) ?hd (cs := #[.string (⟨#[]⟩ : ByteArray), .int .i64 0, .int .i64 0, .bool false]) (t := 44) ?hr ?_; (case hd => rfl); (case hg => rfl); (case hr => first | (go_simp; done) | (go_simp; rfl)); intro gb105 hg w27 hbox hb; have n0_ := Aside0.mk (IsS53.below (by repeat (first|(with_reducible first | exact HI0.out | apply IsS53.alloc | apply IsS53.drewN | apply IsS53.drew | apply IsS53.set_1 | apply IsS53.set_3 | apply IsS53.set_4 | apply IsS53.set_5 | refine IsS53.far ?_ NB0_102.out _) | exact HI0.out)) hb); have n1_ := Aside0.mk (blk_below (by (with_reducible repeat(first|apply bN|apply bD)); exact BK102.out) hb); have n2_ := Aside0.mk (KeepBut.trans (by repeat (first|(with_reducible first | exact HK.out | apply KeepBut.set_ | apply keep_drewN | apply keep_drew | apply keep_alloc | refine keep_far ?_ GW102.out _) | exact HK.out)) (KeepBut.of_below hb g none) (.inl rfl)); have n3_ := Aside0.mk (below_step (by repeat (first|(with_reducible first | exact HB.out | apply below_alloc | apply pw_below_drewN | apply below_drew1 | refine below_set ?_ (IsS53.ge HI0.out) | refine below_set ?_ GE102.out) | exact HB.out)) hb); have n4_ := Aside0.mk (hbox); have n5_ := Aside0.mk ((by rw [hg]; exact (keep_size (w := w) (g := g) (row := none) (by repeat (first|(with_reducible first | exact HK.out | apply KeepBut.set_ | apply keep_drewN | apply keep_drew | apply keep_alloc | refine keep_far ?_ GW102.out _) | exact HK.out))) : w.heap.size ≤ gb105)); have n6_ := Aside0.mk ((Nat.le_trans HW0.out (by rw [hg]; exact (keep_size (w := w) (g := g) (row := none) (by repeat (first|(with_reducible first | exact HK.out | apply KeepBut.set_ | apply keep_drewN | apply keep_drew | apply keep_alloc | refine keep_far ?_ GW102.out _) | exact HK.out))) : w.heap.size ≤ gb105) : w0.heap.size ≤ gb105)); have n7_ := Aside0.mk ((by rw [hg]; exact Nat.ne_of_lt (blk_lt (by (with_reducible repeat(first|apply bN|apply bD)); exact BK102.out)) : gb102 ≠ gb105)); have n8_ := Aside0.mk n7_.out.symm; have n9_ := Aside0.mk ((by rw [hg]; exact Nat.ne_of_lt (IsS53.lt (show IsS53 w0 _ g s0_0 s0_1 s0_2 s0_3 s0_4 s0_5 from by repeat (first|(with_reducible first | exact HI0.out | apply IsS53.alloc | apply IsS53.drewN | apply IsS53.drew | apply IsS53.set_1 | apply IsS53.set_3 | apply IsS53.set_4 | apply IsS53.set_5 | refine IsS53.far ?_ NB0_102.out _) | exact HI0.out))) : g ≠ gb105)); have n10_ := Aside0.mk ((by rw [hg]; exact Nat.ne_of_gt (IsS53.lt (show IsS53 w0 _ g s0_0 s0_1 s0_2 s0_3 s0_4 s0_5 from by repeat (first|(with_reducible first | exact HI0.out | apply IsS53.alloc | apply IsS53.drewN | apply IsS53.drew | apply IsS53.set_1 | apply IsS53.set_3 | apply IsS53.set_4 | apply IsS53.set_5 | refine IsS53.far ?_ NB0_102.out _) | exact HI0.out))) : gb105 ≠ g)); clear HI0; clear BK102; clear HK; clear HB; have HI0 := n0_; have BK102 := n1_; have HK := n2_; have HB := n3_; have BK105 := n4_; have GW105 := n5_; have GE105 := n6_; have NB102_105 := n7_; have NB105_102 := n8_; have NB0_105 := n9_; have NB105_0 := n10_; clear n0_ n1_ n2_ n3_ n4_ n5_ n6_ n7_ n8_ n9_ n10_; clear hb hbox hg; have hnb28 := NB105_102.out; have hnc28 := NB102_105.out; have hnb29 := NB105_0.out; have hnc29 := NB0_105.out; have hcz30_0 : w27.cell? ⟨gb105, 0, none⟩ = some (.string (⟨#[]⟩ : ByteArray)) := (blk_cell BK105.out 0).trans rfl; have hcz30_1 : w27.cell? ⟨gb105, 1, none⟩ = some (.int .i64 0) := (blk_cell BK105.out 1).trans rfl; have hcz30_2 : w27.cell? ⟨gb105, 2, none⟩ = some (.int .i64 0) := (blk_cell BK105.out 2).trans rfl; have hcz30_3 : w27.cell? ⟨gb105, 3, none⟩ = some (.bool false) := (blk_cell BK105.out 3).trans rfl; have hfz30_0 := blk_frozen BK105.out 0; have hfz30_1 := blk_frozen BK105.out 1; have hfz30_2 := blk_frozen BK105.out 2; have hfz30_3 := blk_frozen BK105.out 3; have hnb31 := NB102_0.out; have hnc31 := NB0_102.out; have hcz32_0 : w27.cell? ⟨gb102, 0, none⟩ = some (.int .i64 0) := (blk_cell BK102.out 0).trans rfl; have hcz32_1 : w27.cell? ⟨gb102, 1, none⟩ = some (.string (⟨#[]⟩ : ByteArray)) := (blk_cell BK102.out 1).trans rfl; have hcz32_2 : w27.cell? ⟨gb102, 2, none⟩ = some (.int .i64 0) := (blk_cell BK102.out 2).trans rfl; have hfz32_0 := blk_frozen BK102.out 0; have hfz32_1 := blk_frozen BK102.out 1; have hfz32_2 := blk_frozen BK102.out 2))
      refine bodyPost_ret (results_cell_row rfl _ _ gb102 54 #[.int .i64 4, .string a1, .int .i64 0] (0, 0) _ rfl (by (with_reducible repeat(first|apply bN|apply bD)); refine blk_put (cs := #[.int .i64 4, .string a1, .int .i64 0]) ?_ 2 _ rfl; (with_reducible repeat(first|apply bN|apply bD)); refine blk_put (cs := #[.int .i64 4, .string (⟨#[]⟩ : ByteArray), .int .i64 0]) ?_ 1 _ rfl; (with_reducible repeat(first|apply bN|apply bD)); refine blk_put (cs := #[.int .i64 0, .string (⟨#[]⟩ : ByteArray), .int .i64 0]) ?_ 0 _ rfl; (with_reducible repeat(first|apply bN|apply bD)); refine blk_far ?_ NB102_105.out _; (with_reducible repeat(first|apply bN|apply bD)); refine blk_far ?_ NB102_105.out _; (with_reducible repeat(first|apply bN|apply bD)); refine blk_far ?_ NB102_105.out _; (with_reducible repeat(first|apply bN|apply bD)); refine blk_far ?_ NB102_105.out _; (with_reducible repeat(first|apply bN|apply bD)); exact BK102.out) Try.underlying54 rfl (by kernel_rfl)) rfl ?_
      exact ⟨by first | rfl | (simp [errW_none, errW_some] <;> rfl) | (simp [*, errW_none, errW_some] <;> rfl), by repeat (first|(with_reducible first | exact HI0.out | apply IsS53.alloc | apply IsS53.drewN | apply IsS53.drew | apply IsS53.set_1 | apply IsS53.set_3 | apply IsS53.set_4 | apply IsS53.set_5 | refine IsS53.far ?_ NB0_102.out _ | refine IsS53.far ?_ NB0_105.out _) | exact HI0.out), by repeat (first|(with_reducible first | exact HB.out | apply below_alloc | apply pw_below_drewN | apply below_drew1 | refine below_set ?_ (IsS53.ge HI0.out) | refine below_set ?_ GE102.out | refine below_set ?_ GE105.out) | exact HB.out), by repeat (first|(with_reducible first | exact HK.out | apply KeepBut.set_ | apply keep_drewN | apply keep_drew | apply keep_alloc | refine keep_far ?_ GW102.out _ | refine keep_far ?_ GW105.out _) | exact HK.out)⟩
    ·rw [if_neg c7] at H
     have c7b0 : decide (0 ≤ ((rd_T44 s0_2 t103).f1)) = false := decide_eq_false c7
     clear c7
     simp only [Option.some.injEq, Prod.mk.injEq] at H
     obtain ⟨rfl, rfl, rfl, rfl, rfl, rfl, rfl⟩ := H
     go_enter Try.func49, Try.ntmps49
     go_wp2_with (first | ((with_reducible refine gate_dst (N := 4) rfl ?_); refine box_event ?hg (N := 4) ?hd (cs := #[.int .i64 0, .string (⟨#[]⟩ : ByteArray), .int .i64 0]) (t := 54) ?hr ?_; (case hd => rfl); (case hg => rfl); (case hr => first | (go_simp; done) | (go_simp; rfl)); intro gb102 hg w33 hbox hb; have n0_ := Aside0.mk (IsS53.below (by repeat (first|(with_reducible first | exact HI0.out | apply IsS53.alloc | apply IsS53.drewN | apply IsS53.drew | apply IsS53.set_1 | apply IsS53.set_3 | apply IsS53.set_4 | apply IsS53.set_5) | exact HI0.out)) hb); have n1_ := Aside0.mk (KeepBut.trans (by repeat (first|(with_reducible first | exact HK.out | apply KeepBut.set_ | apply keep_drewN | apply keep_drew | apply keep_alloc) | exact HK.out)) (KeepBut.of_below hb g none) (.inl rfl)); have n2_ := Aside0.mk (below_step (by repeat (first|(with_reducible first | exact HB.out | apply below_alloc | apply pw_below_drewN | apply below_drew1 | refine below_set ?_ (IsS53.ge HI0.out)) | exact HB.out)) hb); have n3_ := Aside0.mk (hbox); have n4_ := Aside0.mk ((by rw [hg]; exact (keep_size (w := w) (g := g) (row := none) (by repeat (first|(with_reducible first | exact HK.out | apply KeepBut.set_ | apply keep_drewN | apply keep_drew | apply keep_alloc) | exact HK.out))) : w.heap.size ≤ gb102)); have n5_ := Aside0.mk ((Nat.le_trans HW0.out (by rw [hg]; exact (keep_size (w := w) (g := g) (row := none) (by repeat (first|(with_reducible first | exact HK.out | apply KeepBut.set_ | apply keep_drewN | apply keep_drew | apply keep_alloc) | exact HK.out))) : w.heap.size ≤ gb102) : w0.heap.size ≤ gb102)); have n6_ := Aside0.mk ((by rw [hg]; exact Nat.ne_of_lt (IsS53.lt (show IsS53 w0 _ g s0_0 s0_1 s0_2 s0_3 s0_4 s0_5 from by repeat (first|(with_reducible first | exact HI0.out | apply IsS53.alloc | apply IsS53.drewN | apply IsS53.drew | apply IsS53.set_1 | apply IsS53.set_3 | apply IsS53.set_4 | apply IsS53.set_5) | exact HI0.out))) : g ≠ gb102)); have n7_ := Aside0.mk ((by rw [hg]; exact Nat.ne_of_gt (IsS53.lt (show IsS53 w0 _ g s0_0 s0_1 s0_2 s0_3 s0_4 s0_5 from by repeat (first|(with_reducible first | exact HI0.out | apply IsS53.alloc | apply IsS53.drewN | apply IsS53.drew | apply IsS53.set_1 | apply IsS53.set_3 | apply IsS53.set_4 | apply IsS53.set_5) | exact HI0.out))) : gb102 ≠ g)); clear HI0; clear HK; clear HB; have HI0 := n0_; have HK := n1_; have HB := n2_; have BK102 := n3_; have GW102 := n4_; have GE102 := n5_; have NB0_102 := n6_; have NB102_0 := n7_; clear n0_ n1_ n2_ n3_ n4_ n5_ n6_ n7_; clear hb hbox hg; obtain ⟨ASz34_0, cSz34_0, ASz34_2, cSz34_2, HGz34, hgz34, HSz34_0, HSz34_2⟩ := HI0.out; have hcz34_0 := cellS53_0 HGz34; have hcz34_1 := cellS53_1 HGz34; have hcz34_2 := cellS53_2 HGz34; have hcz34_3 := cellS53_3 HGz34; have hcz34_4 := cellS53_4 HGz34; have hcz34_5 := cellS53_5 HGz34; have hfz34_1 := blk_frozen HGz34 1; have hfz34_3 := blk_frozen HGz34 3; have hfz34_4 := blk_frozen HGz34 4; have hfz34_5 := blk_frozen HGz34 5; clear HGz34 hgz34) | ((with_reducible refine gate_callee (f := 14) rfl ?_); refine goesL_ (some 12) rfl rfl Try.func14 (by kernel_rfl) rfl #[.slice ASz34_2 s0_2.length cSz34_2, .string a1] rfl (by (try simp only [List.map_toArray, List.map_cons, List.map_nil]); first | done | rfl | (simp only [List.length_drop, List.length_take]; rfl)) ?_; (with_reducible refine (fnd_c _ _ s0_2 a1 t103 _ (Kd.C_below HSz34_2 HB.out) A3.out).mono ?_); rintro e w35 ⟨rfl, hb⟩; refine ⟨_, rfl, ?_⟩; have n0_ := Aside0.mk (IsS53.below (by repeat (first|(with_reducible first | exact HI0.out | apply IsS53.alloc | apply IsS53.drewN | apply IsS53.drew | apply IsS53.set_1 | apply IsS53.set_3 | apply IsS53.set_4 | apply IsS53.set_5 | refine IsS53.far ?_ NB0_102.out _) | exact HI0.out)) hb); have n1_ := Aside0.mk (blk_below (by (with_reducible repeat(first|apply bN|apply bD)); exact BK102.out) hb); have n2_ := Aside0.mk (KeepBut.trans (by repeat (first|(with_reducible first | exact HK.out | apply KeepBut.set_ | apply keep_drewN | apply keep_drew | apply keep_alloc | refine keep_far ?_ GW102.out _) | exact HK.out)) (KeepBut.of_below hb g none) (.inl rfl)); have n3_ := Aside0.mk (below_step (by repeat (first|(with_reducible first | exact HB.out | apply below_alloc | apply pw_below_drewN | apply below_drew1 | refine below_set ?_ (IsS53.ge HI0.out) | refine below_set ?_ GE102.out) | exact HB.out)) hb); clear HI0; clear BK102; clear HK; clear HB; have HI0 := n0_; have BK102 := n1_; have HK := n2_; have HB := n3_; clear n0_ n1_ n2_ n3_; (try clear hb); (try clear hb2); (try clear hk); (try clear hi); obtain ⟨ASz36_0, cSz36_0, ASz36_2, cSz36_2, HGz36, hgz36, HSz36_0, HSz36_2⟩ := HI0.out; have hcz36_0 := cellS53_0 HGz36; have hcz36_1 := cellS53_1 HGz36; have hcz36_2 := cellS53_2 HGz36; have hcz36_3 := cellS53_3 HGz36; have hcz36_4 := cellS53_4 HGz36; have hcz36_5 := cellS53_5 HGz36; have hfz36_1 := blk_frozen HGz36 1; have hfz36_3 := blk_frozen HGz36 3; have hfz36_4 := blk_frozen HGz36 4; have hfz36_5 := blk_frozen HGz36 5; clear HGz36 hgz36; have p104 : 0 ≤ (t103 : Int) := of_decide_eq_true (by first|(with_reducible assumption) | assumption); have q104 : t103 < (s0_2.length : Int) := of_decide_eq_true (by first|(with_reducible assumption) | assumption); obtain ⟨ad104, e104, hx104_0, hx104_1, hx104_2, hx104_3⟩ := at_T44 HSz36_2 t103 p104 q104; cases e104; replace hx104_0 := pw_cell_below HB.out hx104_0; replace hx104_1 := pw_cell_below HB.out hx104_1; replace hx104_2 := pw_cell_below HB.out hx104_2; replace hx104_3 := pw_cell_below HB.out hx104_3; replace p104 := eq_true p104; replace q104 := eq_true q104) | ((with_reducible refine gate_dst (N := 6) rfl ?_); refine box_event ?hg (N := 6) ?hd (cs := #[.string (⟨#[]⟩ : ByteArray), .int .i64 0, .int .i64 0, .bool false]) (t := 44) ?hr ?_; (case hd => rfl); (case hg => rfl); (case hr => first | (go_simp; done) | (go_simp; rfl)); intro gb105 hg w37 hbox hb; have n0_ := Aside0.mk (IsS53.below (by repeat (first|(with_reducible first | exact HI0.out | apply IsS53.alloc | apply IsS53.drewN | apply IsS53.drew | apply IsS53.set_1 | apply IsS53.set_3 | apply IsS53.set_4 | apply IsS53.set_5 | refine IsS53.far ?_ NB0_102.out _) | exact HI0.out)) hb); have n1_ := Aside0.mk (blk_below (by (with_reducible repeat(first|apply bN|apply bD)); exact BK102.out) hb); have n2_ := Aside0.mk (KeepBut.trans (by repeat (first|(with_reducible first | exact HK.out | apply KeepBut.set_ | apply keep_drewN | apply keep_drew | apply keep_alloc | refine keep_far ?_ GW102.out _) | exact HK.out)) (KeepBut.of_below hb g none) (.inl rfl)); have n3_ := Aside0.mk (below_step (by repeat (first|(with_reducible first | exact HB.out | apply below_alloc | apply pw_below_drewN | apply below_drew1 | refine below_set ?_ (IsS53.ge HI0.out) | refine below_set ?_ GE102.out) | exact HB.out)) hb); have n4_ := Aside0.mk (hbox); have n5_ := Aside0.mk ((by rw [hg]; exact (keep_size (w := w) (g := g) (row := none) (by repeat (first|(with_reducible first | exact HK.out | apply KeepBut.set_ | apply keep_drewN | apply keep_drew | apply keep_alloc | refine keep_far ?_ GW102.out _) | exact HK.out))) : w.heap.size ≤ gb105)); have n6_ := Aside0.mk ((Nat.le_trans HW0.out (by rw [hg]; exact (keep_size (w := w) (g := g) (row := none) (by repeat (first|(with_reducible first | exact HK.out | apply KeepBut.set_ | apply keep_drewN | apply keep_drew | apply keep_alloc | refine keep_far ?_ GW102.out _) | exact HK.out))) : w.heap.size ≤ gb105) : w0.heap.size ≤ gb105)); have n7_ := Aside0.mk ((by rw [hg]; exact Nat.ne_of_lt (blk_lt (by (with_reducible repeat(first|apply bN|apply bD)); exact BK102.out)) : gb102 ≠ gb105)); have n8_ := Aside0.mk n7_.out.symm; have n9_ := Aside0.mk ((by rw [hg]; exact Nat.ne_of_lt (IsS53.lt (show IsS53 w0 _ g s0_0 s0_1 s0_2 s0_3 s0_4 s0_5 from by repeat (first|(with_reducible first | exact HI0.out | apply IsS53.alloc | apply IsS53.drewN | apply IsS53.drew | apply IsS53.set_1 | apply IsS53.set_3 | apply IsS53.set_4 | apply IsS53.set_5 | refine IsS53.far ?_ NB0_102.out _) | exact HI0.out))) : g ≠ gb105)); have n10_ := Aside0.mk ((by rw [hg]; exact Nat.ne_of_gt (IsS53.lt (show IsS53 w0 _ g s0_0 s0_1 s0_2 s0_3 s0_4 s0_5 from by repeat (first|(with_reducible first | exact HI0.out | apply IsS53.alloc | apply IsS53.drewN | apply IsS53.drew | apply IsS53.set_1 | apply IsS53.set_3 | apply IsS53.set_4 | apply IsS53.set_5 | refine IsS53.far ?_ NB0_102.out _) | exact HI0.out))) : gb105 ≠ g)); clear HI0; clear BK102; clear HK; clear HB; have HI0 := n0_; have BK102 := n1_; have HK := n2_; have HB := n3_; have BK105 := n4_; have GW105 := n5_; have GE105 := n6_; have NB102_105 := n7_; have NB105_102 := n8_; have NB0_105 := n9_; have NB105_0 := n10_; clear n0_ n1_ n2_ n3_ n4_ n5_ n6_ n7_ n8_ n9_ n10_; clear hb hbox hg; have hnb38 := NB105_102.out; have hnc38 := NB102_105.out; have hnb39 := NB105_0.out; have hnc39 := NB0_105.out; have hcz40_0 : w37.cell? ⟨gb105, 0, none⟩ = some (.string (⟨#[]⟩ : ByteArray)) := (blk_cell BK105.out 0).trans rfl; have hcz40_1 : w37.cell? ⟨gb105, 1, none⟩ = some (.int .i64 0) := (blk_cell BK105.out 1).trans rfl; have hcz40_2 : w37.cell? ⟨gb105, 2, none⟩ = some (.int .i64 0) := (blk_cell BK105.out 2).trans rfl; have hcz40_3 : w37.cell? ⟨gb105, 3, none⟩ = some (.bool false) := (blk_cell BK105.out 3).trans rfl; have hfz40_0 := blk_frozen BK105.out 0; have hfz40_1 := blk_frozen BK105.out 1; have hfz40_2 := blk_frozen BK105.out 2; have hfz40_3 := blk_frozen BK105.out 3; have hnb41 := NB102_0.out; have hnc41 := NB0_102.out; have hcz42_0 : w37.cell? ⟨gb102, 0, none⟩ = some (.int .i64 0) := (blk_cell BK102.out 0).trans rfl; have hcz42_1 : w37.cell? ⟨gb102, 1, none⟩ = some (.string (⟨#[]⟩ : ByteArray)) := (blk_cell BK102.out 1).trans rfl; have hcz42_2 : w37.cell? ⟨gb102, 2, none⟩ = some (.int .i64 0) := (blk_cell BK102.out 2).trans rfl; have hfz42_0 := blk_frozen BK102.out 0; have hfz42_1 := blk_frozen BK102.out 1; have hfz42_2 := blk_frozen BK102.out 2))
     refine bodyPost_ret (results_cell_row rfl _ _ gb102 54 #[.int .i64 4, .string a1, .int .i64 0] (0, 0) _ rfl (by (with_reducible repeat(first|apply bN|apply bD)); refine blk_put (cs := #[.int .i64 4, .string a1, .int .i64 0]) ?_ 2 _ rfl; (with_reducible repeat(first|apply bN|apply bD)); refine blk_put (cs := #[.int .i64 4, .string (⟨#[]⟩ : ByteArray), .int .i64 0]) ?_ 1 _ rfl; (with_reducible repeat(first|apply bN|apply bD)); refine blk_put (cs := #[.int .i64 0, .string (⟨#[]⟩ : ByteArray), .int .i64 0]) ?_ 0 _ rfl; (with_reducible repeat(first|apply bN|apply bD)); refine blk_far ?_ NB102_105.out _; (with_reducible repeat(first|apply bN|apply bD)); refine blk_far ?_ NB102_105.out _; (with_reducible repeat(first|apply bN|apply bD)); refine blk_far ?_ NB102_105.out _; (with_reducible repeat(first|apply bN|apply bD)); refine blk_far ?_ NB102_105.out _; (with_reducible repeat(first|apply bN|apply bD)); exact BK102.out) Try.underlying54 rfl (by kernel_rfl)) rfl ?_
     exact ⟨by first | rfl | (simp [errW_none, errW_some] <;> rfl) | (simp [*, errW_none, errW_some] <;> rfl), by repeat (first|(with_reducible first | exact HI0.out | apply IsS53.alloc | apply IsS53.drewN | apply IsS53.drew | apply IsS53.set_1 | apply IsS53.set_3 | apply IsS53.set_4 | apply IsS53.set_5 | refine IsS53.far ?_ NB0_102.out _ | refine IsS53.far ?_ NB0_105.out _) | exact HI0.out), by repeat (first|(with_reducible first | exact HB.out | apply below_alloc | apply pw_below_drewN | apply below_drew1 | refine below_set ?_ (IsS53.ge HI0.out) | refine below_set ?_ GE102.out | refine below_set ?_ GE105.out) | exact HB.out), by repeat (first|(with_reducible first | exact HK.out | apply KeepBut.set_ | apply keep_drewN | apply keep_drew | apply keep_alloc | refine keep_far ?_ GW102.out _ | refine keep_far ?_ GW105.out _) | exact HK.out)⟩
   ·rw [if_neg c6] at H
    exact absurd H (by simp)
  ·rw [if_neg c5] at H
   exact absurd H (by simp)
 ·rw [if_neg c4] at H
  have c4b0 : decide (0 ≤ t103) = false := decide_eq_false c4
  clear c4
  simp only [Option.some.injEq, Prod.mk.injEq] at H
  obtain ⟨rfl, rfl, rfl, rfl, rfl, rfl, rfl⟩ := H
  go_enter Try.func49, Try.ntmps49
  go_wp2_with (first | ((with_reducible refine gate_dst (N := 4) rfl ?_); refine box_event ?hg (N := 4) ?hd (cs := #[.int .i64 0, .string (⟨#[]⟩ : ByteArray), .int .i64 0]) (t := 54) ?hr ?_; (case hd => rfl); (case hg => rfl); (case hr => first | (go_simp; done) | (go_simp; rfl)); intro gb102 hg w43 hbox hb; have n0_ := Aside0.mk (IsS53.below (by repeat (first|(with_reducible first | exact HI0.out | apply IsS53.alloc | apply IsS53.drewN | apply IsS53.drew | apply IsS53.set_1 | apply IsS53.set_3 | apply IsS53.set_4 | apply IsS53.set_5) | exact HI0.out)) hb); have n1_ := Aside0.mk (KeepBut.trans (by repeat (first|(with_reducible first | exact HK.out | apply KeepBut.set_ | apply keep_drewN | apply keep_drew | apply keep_alloc) | exact HK.out)) (KeepBut.of_below hb g none) (.inl rfl)); have n2_ := Aside0.mk (below_step (by repeat (first|(with_reducible first | exact HB.out | apply below_alloc | apply pw_below_drewN | apply below_drew1 | refine below_set ?_ (IsS53.ge HI0.out)) | exact HB.out)) hb); have n3_ := Aside0.mk (hbox); have n4_ := Aside0.mk ((by rw [hg]; exact (keep_size (w := w) (g := g) (row := none) (by repeat (first|(with_reducible first | exact HK.out | apply KeepBut.set_ | apply keep_drewN | apply keep_drew | apply keep_alloc) | exact HK.out))) : w.heap.size ≤ gb102)); have n5_ := Aside0.mk ((Nat.le_trans HW0.out (by rw [hg]; exact (keep_size (w := w) (g := g) (row := none) (by repeat (first|(with_reducible first | exact HK.out | apply KeepBut.set_ | apply keep_drewN | apply keep_drew | apply keep_alloc) | exact HK.out))) : w.heap.size ≤ gb102) : w0.heap.size ≤ gb102)); have n6_ := Aside0.mk ((by rw [hg]; exact Nat.ne_of_lt (IsS53.lt (show IsS53 w0 _ g s0_0 s0_1 s0_2 s0_3 s0_4 s0_5 from by repeat (first|(with_reducible first | exact HI0.out | apply IsS53.alloc | apply IsS53.drewN | apply IsS53.drew | apply IsS53.set_1 | apply IsS53.set_3 | apply IsS53.set_4 | apply IsS53.set_5) | exact HI0.out))) : g ≠ gb102)); have n7_ := Aside0.mk ((by rw [hg]; exact Nat.ne_of_gt (IsS53.lt (show IsS53 w0 _ g s0_0 s0_1 s0_2 s0_3 s0_4 s0_5 from by repeat (first|(with_reducible first | exact HI0.out | apply IsS53.alloc | apply IsS53.drewN | apply IsS53.drew | apply IsS53.set_1 | apply IsS53.set_3 | apply IsS53.set_4 | apply IsS53.set_5) | exact HI0.out))) : gb102 ≠ g)); clear HI0; clear HK; clear HB; have HI0 := n0_; have HK := n1_; have HB := n2_; have BK102 := n3_; have GW102 := n4_; have GE102 := n5_; have NB0_102 := n6_; have NB102_0 := n7_; clear n0_ n1_ n2_ n3_ n4_ n5_ n6_ n7_; clear hb hbox hg; obtain ⟨ASz44_0, cSz44_0, ASz44_2, cSz44_2, HGz44, hgz44, HSz44_0, HSz44_2⟩ := HI0.out; have hcz44_0 := cellS53_0 HGz44; have hcz44_1 := cellS53_1 HGz44; have hcz44_2 := cellS53_2 HGz44; have hcz44_3 := cellS53_3 HGz44; have hcz44_4 := cellS53_4 HGz44; have hcz44_5 := cellS53_5 HGz44; have hfz44_1 := blk_frozen HGz44 1; have hfz44_3 := blk_frozen HGz44 3; have hfz44_4 := blk_frozen HGz44 4; have hfz44_5 := blk_frozen HGz44 5; clear HGz44 hgz44) | ((with_reducible refine gate_callee (f := 14) rfl ?_); refine goesL_ (some 12) rfl rfl Try.func14 (by kernel_rfl) rfl #[.slice ASz44_2 s0_2.length cSz44_2, .string a1] rfl (by (try simp only [List.map_toArray, List.map_cons, List.map_nil]); first | done | rfl | (simp only [List.length_drop, List.length_take]; rfl)) ?_; (with_reducible refine (fnd_c _ _ s0_2 a1 t103 _ (Kd.C_below HSz44_2 HB.out) A3.out).mono ?_); rintro e w45 ⟨rfl, hb⟩; refine ⟨_, rfl, ?_⟩; have n0_ := Aside0.mk (IsS53.below (by repeat (first|(with_reducible first | exact HI0.out | apply IsS53.alloc | apply IsS53.drewN | apply IsS53.drew | apply IsS53.set_1 | apply IsS53.set_3 | apply IsS53.set_4 | apply IsS53.set_5 | refine IsS53.far ?_ NB0_102.out _) | exact HI0.out)) hb); have n1_ := Aside0.mk (blk_below (by (with_reducible repeat(first|apply bN|apply bD)); exact BK102.out) hb); have n2_ := Aside0.mk (KeepBut.trans (by repeat (first|(with_reducible first | exact HK.out | apply KeepBut.set_ | apply keep_drewN | apply keep_drew | apply keep_alloc | refine keep_far ?_ GW102.out _) | exact HK.out)) (KeepBut.of_below hb g none) (.inl rfl)); have n3_ := Aside0.mk (below_step (by repeat (first|(with_reducible first | exact HB.out | apply below_alloc | apply pw_below_drewN | apply below_drew1 | refine below_set ?_ (IsS53.ge HI0.out) | refine below_set ?_ GE102.out) | exact HB.out)) hb); clear HI0; clear BK102; clear HK; clear HB; have HI0 := n0_; have BK102 := n1_; have HK := n2_; have HB := n3_; clear n0_ n1_ n2_ n3_; (try clear hb); (try clear hb2); (try clear hk); (try clear hi); have hnb46 := NB102_0.out; have hnc46 := NB0_102.out; have hcz47_0 : w45.cell? ⟨gb102, 0, none⟩ = some (.int .i64 0) := (blk_cell BK102.out 0).trans rfl; have hcz47_1 : w45.cell? ⟨gb102, 1, none⟩ = some (.string (⟨#[]⟩ : ByteArray)) := (blk_cell BK102.out 1).trans rfl; have hcz47_2 : w45.cell? ⟨gb102, 2, none⟩ = some (.int .i64 0) := (blk_cell BK102.out 2).trans rfl; have hfz47_0 := blk_frozen BK102.out 0; have hfz47_1 := blk_frozen BK102.out 1; have hfz47_2 := blk_frozen BK102.out 2))
  refine bodyPost_ret (results_cell_row rfl _ _ gb102 54 #[.int .i64 4, .string a1, .int .i64 0] (0, 0) _ rfl (by (with_reducible repeat(first|apply bN|apply bD)); refine blk_put (cs := #[.int .i64 4, .string a1, .int .i64 0]) ?_ 2 _ rfl; (with_reducible repeat(first|apply bN|apply bD)); refine blk_put (cs := #[.int .i64 4, .string (⟨#[]⟩ : ByteArray), .int .i64 0]) ?_ 1 _ rfl; (with_reducible repeat(first|apply bN|apply bD)); refine blk_put (cs := #[.int .i64 0, .string (⟨#[]⟩ : ByteArray), .int .i64 0]) ?_ 0 _ rfl; (with_reducible repeat(first|apply bN|apply bD)); exact BK102.out) Try.underlying54 rfl (by kernel_rfl)) rfl ?_
  exact ⟨by first | rfl | (simp [errW_none, errW_some] <;> rfl) | (simp [*, errW_none, errW_some] <;> rfl), by repeat (first|(with_reducible first | exact HI0.out | apply IsS53.alloc | apply IsS53.drewN | apply IsS53.drew | apply IsS53.set_1 | apply IsS53.set_3 | apply IsS53.set_4 | apply IsS53.set_5 | refine IsS53.far ?_ NB0_102.out _) | exact HI0.out), by repeat (first|(with_reducible first | exact HB.out | apply below_alloc | apply pw_below_drewN | apply below_drew1 | refine below_set ?_ (IsS53.ge HI0.out) | refine below_set ?_ GE102.out) | exact HB.out), by repeat (first|(with_reducible first | exact HK.out | apply KeepBut.set_ | apply keep_drewN | apply keep_drew | apply keep_alloc | refine keep_far ?_ GW102.out _) | exact HK.out)⟩
theorem find_from (s : ByteArray) : ∀ (S : List S44) (i : Int), (findFrom s S i = -1 ∧ S.find? (fun x => x.f0.toList == s.toList) = none) ∨ ∃ (j : Nat) (x : S44), j < S.length ∧ findFrom s S i = i + j ∧ S[j]? = some x ∧ S.find? (fun x => x.f0.toList == s.toList) = some x := by
 intro S
 induction S with
 | nil => intro i; exact .inl ⟨rfl, rfl⟩
 | cons y r ih =>
  intro i
  rw [findFrom, List.find?_cons]
  cases h : (y.f0.toList == s.toList)
  ·rw [if_neg (by simp)]
   rcases ih (i + 1) with ⟨a, b⟩ | ⟨j, x, h1, h2, h3, h4⟩
   ·exact .inl ⟨a, b⟩
   ·exact .inr ⟨j + 1, x, by simp; omega, by rw [h2]; push_cast; omega, by simpa using h3, h4⟩
  ·exact .inr ⟨0, y, by simp, by simp, by simp, rfl⟩
theorem named_eq (s0_0 : List (S38)) (s0_1 : Int) (s0_2 : List (S44)) (s0_3 : Int) (s0_4 : ByteArray) (s0_5 : Int) (a1 : ByteArray) (hS : s0_2.length ≤ 1000) :
  rdn49.f s0_0 s0_1 s0_2 s0_3 s0_4 s0_5 a1 = some ((namedS s0_2 a1).1, (namedS s0_2 a1).2.1, (namedS s0_2 a1).2.2, s0_1, s0_3, s0_4, s0_5) := by
 unfold rdn49.f fndF wrapF namedS
 rw [if_pos hS, Option.bind_some]
 rcases find_from a1 s0_2 0 with ⟨a, b⟩ | ⟨j, x, h1, h2, h3, h4⟩
 ·rw [a, b, if_neg (by omega)]
 ·have hr : rd_T44 s0_2 (findFrom a1 s0_2 0) = x := by rw [h2]; unfold rd_T44; simp [List.getD, h3]
  rw [h4, hr, if_pos (by omega), if_pos (by omega), if_pos (by omega)]
  simp only []
  by_cases c1 : x.f1 ≥ 0
  ·by_cases c2 : x.f1 ≤ 3
   ·rw [if_pos c1, if_pos c2, if_pos ⟨c1, c2⟩]; rfl
   ·rw [if_pos c1, if_neg c2, if_neg (fun g => c2 g.2)]
  ·rw [if_neg c1, if_neg (fun g => c1 g.1)]
theorem nam_c (g : Nat) (s0_0 : List (S38)) (s0_1 : Int) (s0_2 : List (S44)) (s0_3 : Int) (s0_4 : ByteArray) (s0_5 : Int) (a1 : ByteArray) (r1 : Int) (r2 : ByteArray) (r3 : Int) (r4 : Int) (r5 : Int) (r6 : ByteArray) (r7 : Int) (w0 w : World) (hI : IsS53 w0 w g s0_0 s0_1 s0_2 s0_3 s0_4 s0_5) (hB : Below w0.heap.size w0 w) (h : namF s0_0 s0_1 s0_2 s0_3 s0_4 s0_5 a1 = some (r1, r2, r3, r4, r5, r6, r7)) :
  Calls Try.prog 49 #[.pointer (some ⟨g, 0, none⟩), .string a1] w fun e w' => e = .returned (.agg #[.int .i64 r1, .string r2, .int .i64 r3]) ∧ IsS53 w0 w' g s0_0 r4 s0_2 r5 r6 r7 ∧ Below w0.heap.size w0 w' ∧ KeepBut w w' g none := by
 unfold namF at h
 by_cases hS : s0_2.length ≤ 1000
 ·rw [if_pos hS] at h
  refine rdn49.calls g s0_0 s0_1 s0_2 s0_3 s0_4 s0_5 a1 r1 r2 r3 r4 r5 r6 r7 w0 w hI hB ?_
  rw [← h]
  exact named_eq s0_0 s0_1 s0_2 s0_3 s0_4 s0_5 a1 hS
 ·rw [if_neg hS] at h; cases h
end Go.Proofs.Ytpinoobgnnlccaa.A
