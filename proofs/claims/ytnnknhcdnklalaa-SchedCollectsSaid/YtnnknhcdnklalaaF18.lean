/- Right of both packages: what each call returns. No condition. -/
import Derived.Test.YtnnknhcdnklalaaMap
namespace Go.Proofs.Ytnnknhcdnklalaa.A
open Go Go.RowKit
set_option linter.unusedSimpArgs false
set_option linter.unusedVariables false
section
variable {P : Program} {ops : Array Oper} {Q : Exit → Act → World → Prop} {o : Oper} {rest : List Oper} {a : Act} {w : World}
theorem g_index (t : TypeId) {x y : Operand} (h : wpList P ops Q (o :: rest) a w) (ho : o.op = .index t x y) : wpList P ops Q (o :: rest) a w := h
theorem g_alloc (t : TypeId) (h : wpList P ops Q (o :: rest) a w) (ho : o.op = .alloc t) : wpList P ops Q (o :: rest) a w := h
theorem g_store (t : TypeId) {x y : Operand} (h : wpList P ops Q (o :: rest) a w) (ho : o.op = .store t x y) : wpList P ops Q (o :: rest) a w := h
theorem g_load (t : TypeId) {x : Operand} (h : wpList P ops Q (o :: rest) a w) (ho : o.op = .load t x) : wpList P ops Q (o :: rest) a w := h
theorem g_lookup (t : TypeId) {x y : Operand} {b : Bool} (h : wpList P ops Q (o :: rest) a w) (ho : o.op = .lookup t x y b) : wpList P ops Q (o :: rest) a w := h
theorem g_put (t : TypeId) {x y z : Operand} (h : wpList P ops Q (o :: rest) a w) (ho : o.op = .mapUpdate t x y z) : wpList P ops Q (o :: rest) a w := h
theorem g_build (t : TypeId) {x : Array (Nat × Operand)} (h : wpList P ops Q (o :: rest) a w) (ho : o.op = .build t x) : wpList P ops Q (o :: rest) a w := h
theorem g_bin (t : TypeId) {b : BinOp} {x y : Operand} {u : TypeId} (h : wpList P ops Q (o :: rest) a w) (ho : o.op = .binOp b t x y u) : wpList P ops Q (o :: rest) a w := h
end
def seenL (t : Nat → Pr) : Nat → List (Int × Value)
  | 0 => []
  | k + 1 => putI (seenL t k) ((t k).f 0) (.bool true)
def seen (t : Nat → Pr) (k : Nat) (n : Int) : Bool := (List.range k).any fun i => (t i).f 0 == n
theorem seen_succ (t : Nat → Pr) (k : Nat) (n : Int) : seen t (k + 1) n = (seen t k n || (t k).f 0 == n) := by
  unfold seen; rw [List.range_succ, List.any_append]; simp
theorem seen_get (t : Nat → Pr) (n : Int) : ∀ k, (getI (seenL t k) n).getD (.bool false) = .bool (seen t k n)
  | 0 => rfl
  | k + 1 => by
    rw [seenL, getI_putI, seen_succ]
    by_cases h : n = (t k).f 0
    · rw [if_pos h, h]; simp
    · rw [if_neg h, seen_get t n k]
      have : ((t k).f 0 == n) = false := by simp; exact fun e => h e.symm
      rw [this, Bool.or_false]
noncomputable def rightQ (t : Nat → Pr) (i : Nat) : Bool := validB (t i) && !((t i).f 2 != 0 && seen t i ((t i).f 0))
/-- Is a table valid? -/
noncomputable def rightB (t : Nat → Pr) : Bool := allB (rightQ t) 8
set_option maxHeartbeats 4000000 in
theorem right_v (t : Nat → Pr) (w : World) : Calls Try.prog 11 #[.agg (tcs t)] w fun e w' => e = .returned (.bool (rightB t)) ∧ Below w.heap.size w w' := by
  have hk0 := (Blk.new w t).alloc (.map #[] 0)
  have hm0 : MapI ((w.alloc (.cells (tcs t) 29)).alloc (.map #[] 0)) (w.heap.size + 1) [] := ⟨#[], 0, heap_alloc2_new _ _ _, rfl⟩
  have hB0 := hidI ((Below.alloc (Below.refl w.heap.size w) (Nat.le_refl _) (.cells (tcs t) 29)).alloc (by simp) (.map #[] 0))
  go_enter Try.func11, Try.ntmps11
  go_wp2_with (first
    | (refine st_makeMap (by rfl) rfl ?_; go_simp)
    | (refine st_load29 (by rfl) rfl rfl hk0 ?_))
  clear hk0
  go_loopw [8] (fun v wr => ∃ k : Nat, k ≤ 8 ∧ v = .int .i64 k ∧ MapI wr (w.heap.size + 1) (seenL t k) ∧ Below w.heap.size w wr ∧ Hid (allB (rightQ t) k = true)) (fun v _ => 8 - (intOf v).toNat)
  case atStart => exact ⟨0, by omega, rfl, hm0, hB0.out, rfl⟩
  case round =>
    clear hm0 hB0
    obtain ⟨k, hk, rfl, hm, hbel, hv⟩ := hrel
    have hlm := hm.lt
    have HB := hidI hbel; clear hbel
    by_cases hk8 : k < 8
    · have hlt : (k : Int) < 8 := by omega
      have hlo : (0 : Int) ≤ k := by omega
      have hs := allB_succ (rightQ t) k
      have hff := allB_false (rightQ t) 8 k hk8
      have hsg := seen_get t ((t k).f 0) k
      have hQ : rightQ t k = (validB (t k) && !((t k).f 2 != 0 && seen t k ((t k).f 0))) := rfl
      have hvl := fun W => valid_v (t k) W
      have HSL : Hid (seenL t (k + 1) = putI (seenL t k) ((t k).f 0) (.bool true)) := rfl
      cases g0 : validB (t k)
      · simp only [g0] at hvl
        have HF : Hid (rightB t = false) := hidI (hff (by rw [hQ, g0]; rfl))
        clear hs hff hsg hQ g0 hv HSL
        go_wp2_with (first
          | go_skip
          | (go_at_call 28; refine (hvl _).mono ?_; rintro e w3 ⟨rfl, hb3⟩; have hq3 := hq2.below hb3 hq2.lt; have hm3 := hm2.below hb3 hm2.lt; have HB3 := hidI (HB2.out.trans (hb3.mono HB2.out.size)); have d2 := hq3.int 2 (by decide) (by decide); have d0 := hq3.int 0 (by decide) (by decide); clear hq2 hm2 HB2 hb3 hvl hq3)
          | ((with_reducible refine g_index 29 ?_ rfl); refine st_index29 (by rfl) rfl rfl rfl hk8 ?_)
          | ((with_reducible refine g_alloc 28 ?_ rfl); refine st_alloc28 (by rfl) rfl ?_; have hq1 := PBlk.new wr zp; have hm1 := hm.alloc (.cells (pcs zp) 28); have HB1 := hidI (HB.out.alloc HB.out.size (.cells (pcs zp) 28)); clear hm HB)
          | ((with_reducible refine g_store 28 ?_ rfl); refine st_pstore28 (by rfl) rfl rfl rfl hq1 ?_; intro w2 hq2 hu2; have hm2 := hm1.upd hu2 (by omega); have HB2 := hidI (HB1.out.trans (hu2.below (by omega))); clear hm1 HB1 hq1 hu2)
          | ((with_reducible refine g_load 28 ?_ rfl); refine st_pload28 (by rfl) rfl rfl hq2 ?_)
          | ((with_reducible refine g_lookup 44 ?_ rfl); refine st_look44 (by rfl) rfl rfl rfl hm3 ?_; rw [hsg])
          | ((with_reducible refine g_put 44 ?_ rfl); refine st_put (by rfl) rfl Try.underlying44 rfl rfl rfl hm3 ?_; intro w4 hm4 hu4; have HB4 := hidI (HB3.out.trans (hu4.below (by omega))); clear hm3 HB3 hu4))
        go_ret
        exact ⟨ret_bool HF.out.symm, HB3.out⟩
      simp only [g0] at hvl
      cases g1 : ((t k).f 2 != 0)
      · have HS : Hid (allB (rightQ t) (k + 1) = true) := by rw [Hid, hs, hv.out, hQ, g0, g1]; rfl
        clear hs hff hsg hQ g0 hv
        go_wp2_with (first
          | go_skip
          | (go_at_call 28; refine (hvl _).mono ?_; rintro e w3 ⟨rfl, hb3⟩; have hq3 := hq2.below hb3 hq2.lt; have hm3 := hm2.below hb3 hm2.lt; have HB3 := hidI (HB2.out.trans (hb3.mono HB2.out.size)); have d2 := hq3.int 2 (by decide) (by decide); have d0 := hq3.int 0 (by decide) (by decide); clear hq2 hm2 HB2 hb3 hvl hq3)
          | ((with_reducible refine g_index 29 ?_ rfl); refine st_index29 (by rfl) rfl rfl rfl hk8 ?_)
          | ((with_reducible refine g_alloc 28 ?_ rfl); refine st_alloc28 (by rfl) rfl ?_; have hq1 := PBlk.new wr zp; have hm1 := hm.alloc (.cells (pcs zp) 28); have HB1 := hidI (HB.out.alloc HB.out.size (.cells (pcs zp) 28)); clear hm HB)
          | ((with_reducible refine g_store 28 ?_ rfl); refine st_pstore28 (by rfl) rfl rfl rfl hq1 ?_; intro w2 hq2 hu2; have hm2 := hm1.upd hu2 (by omega); have HB2 := hidI (HB1.out.trans (hu2.below (by omega))); clear hm1 HB1 hq1 hu2)
          | ((with_reducible refine g_load 28 ?_ rfl); refine st_pload28 (by rfl) rfl rfl hq2 ?_)
          | ((with_reducible refine g_lookup 44 ?_ rfl); refine st_look44 (by rfl) rfl rfl rfl hm3 ?_; rw [hsg])
          | ((with_reducible refine g_put 44 ?_ rfl); refine st_put (by rfl) rfl Try.underlying44 rfl rfl rfl hm3 ?_; intro w4 hm4 hu4; have HB4 := hidI (HB3.out.trans (hu4.below (by omega))); clear hm3 HB3 hu4))
        go_roundw
        case measure => simp [intOf]; omega
        case rel => exact ⟨k + 1, by omega, by go_num, by rw [HSL.out]; exact hm4, HB4.out, HS⟩
      cases g2 : seen t k ((t k).f 0)
      · have HS : Hid (allB (rightQ t) (k + 1) = true) := by rw [Hid, hs, hv.out, hQ, g0, g1, g2]; rfl
        rw [g2] at hsg
        clear hs hff hQ g0 g2 hv
        go_wp2_with (first
          | go_skip
          | (go_at_call 28; refine (hvl _).mono ?_; rintro e w3 ⟨rfl, hb3⟩; have hq3 := hq2.below hb3 hq2.lt; have hm3 := hm2.below hb3 hm2.lt; have HB3 := hidI (HB2.out.trans (hb3.mono HB2.out.size)); have d2 := hq3.int 2 (by decide) (by decide); have d0 := hq3.int 0 (by decide) (by decide); clear hq2 hm2 HB2 hb3 hvl hq3)
          | ((with_reducible refine g_index 29 ?_ rfl); refine st_index29 (by rfl) rfl rfl rfl hk8 ?_)
          | ((with_reducible refine g_alloc 28 ?_ rfl); refine st_alloc28 (by rfl) rfl ?_; have hq1 := PBlk.new wr zp; have hm1 := hm.alloc (.cells (pcs zp) 28); have HB1 := hidI (HB.out.alloc HB.out.size (.cells (pcs zp) 28)); clear hm HB)
          | ((with_reducible refine g_store 28 ?_ rfl); refine st_pstore28 (by rfl) rfl rfl rfl hq1 ?_; intro w2 hq2 hu2; have hm2 := hm1.upd hu2 (by omega); have HB2 := hidI (HB1.out.trans (hu2.below (by omega))); clear hm1 HB1 hq1 hu2)
          | ((with_reducible refine g_load 28 ?_ rfl); refine st_pload28 (by rfl) rfl rfl hq2 ?_)
          | ((with_reducible refine g_lookup 44 ?_ rfl); refine st_look44 (by rfl) rfl rfl rfl hm3 ?_; rw [hsg])
          | ((with_reducible refine g_put 44 ?_ rfl); refine st_put (by rfl) rfl Try.underlying44 rfl rfl rfl hm3 ?_; intro w4 hm4 hu4; have HB4 := hidI (HB3.out.trans (hu4.below (by omega))); clear hm3 HB3 hu4))
        go_roundw
        case measure => simp [intOf]; omega
        case rel => exact ⟨k + 1, by omega, by go_num, by rw [HSL.out]; exact hm4, HB4.out, HS⟩
      · have HF : Hid (rightB t = false) := hidI (hff (by rw [hQ, g0, g1, g2]; rfl))
        rw [g2] at hsg
        clear hs hff hQ g0 g2 hv HSL
        go_wp2_with (first
          | go_skip
          | (go_at_call 28; refine (hvl _).mono ?_; rintro e w3 ⟨rfl, hb3⟩; have hq3 := hq2.below hb3 hq2.lt; have hm3 := hm2.below hb3 hm2.lt; have HB3 := hidI (HB2.out.trans (hb3.mono HB2.out.size)); have d2 := hq3.int 2 (by decide) (by decide); have d0 := hq3.int 0 (by decide) (by decide); clear hq2 hm2 HB2 hb3 hvl hq3)
          | ((with_reducible refine g_index 29 ?_ rfl); refine st_index29 (by rfl) rfl rfl rfl hk8 ?_)
          | ((with_reducible refine g_alloc 28 ?_ rfl); refine st_alloc28 (by rfl) rfl ?_; have hq1 := PBlk.new wr zp; have hm1 := hm.alloc (.cells (pcs zp) 28); have HB1 := hidI (HB.out.alloc HB.out.size (.cells (pcs zp) 28)); clear hm HB)
          | ((with_reducible refine g_store 28 ?_ rfl); refine st_pstore28 (by rfl) rfl rfl rfl hq1 ?_; intro w2 hq2 hu2; have hm2 := hm1.upd hu2 (by omega); have HB2 := hidI (HB1.out.trans (hu2.below (by omega))); clear hm1 HB1 hq1 hu2)
          | ((with_reducible refine g_load 28 ?_ rfl); refine st_pload28 (by rfl) rfl rfl hq2 ?_)
          | ((with_reducible refine g_lookup 44 ?_ rfl); refine st_look44 (by rfl) rfl rfl rfl hm3 ?_; rw [hsg])
          | ((with_reducible refine g_put 44 ?_ rfl); refine st_put (by rfl) rfl Try.underlying44 rfl rfl rfl hm3 ?_; intro w4 hm4 hu4; have HB4 := hidI (HB3.out.trans (hu4.below (by omega))); clear hm3 HB3 hu4))
        go_ret
        exact ⟨ret_bool HF.out.symm, HB3.out⟩
    · obtain rfl : k = 8 := by omega
      go_wp2
      go_ret
      exact ⟨ret_bool hv.out.symm, HB.out⟩
def dupP (t : Nat → Pr) (i k : Nat) : Bool := !(((t i).f 2 != 0 && (t k).f 2 != 0) && (t i).f 0 == (t k).f 0)
noncomputable def rrightQ (t : Nat → Pr) (i : Nat) : Bool := validB (t i) && allB (dupP t i) i
theorem allB_true {f : Nat → Bool} {n k : Nat} (h : allB f n = true) (hk : k < n) : f k = true := List.all_eq_true.1 h k (List.mem_range.2 hk)
theorem allB_mk {f : Nat → Bool} {n : Nat} (h : ∀ k, k < n → f k = true) : allB f n = true := List.all_eq_true.2 fun k hk => h k (List.mem_range.1 hk)
theorem allB_congr {f g : Nat → Bool} {n : Nat} (h : ∀ k, k < n → f k = g k) : allB f n = allB g n := by
  rw [Bool.eq_iff_iff]
  exact ⟨fun hf => allB_mk fun k hk => by rw [← h k hk]; exact allB_true hf hk, fun hg => allB_mk fun k hk => by rw [h k hk]; exact allB_true hg hk⟩
theorem eqP_eq {p q : Pr} (h : eqP p q = true) : pcs p = pcs q := by unfold eqP at h; simpa using h
theorem pcs_f {p q : Pr} (h : pcs p = pcs q) (j : Nat) (hj : j < 29) (hj' : j ≠ 15) : p.f j = q.f j := by
  have := pcs_int p j hj hj'; rw [h, pcs_int q j hj hj'] at this; injection this with this; injection this with _ this; exact this.symm
/-- A free entry that is valid has the number 0, another one a number from 1 on. -/
theorem valid_pid {p : Pr} (h : validB p = true) : (p.f 2 = 0 → p.f 0 = 0) ∧ (p.f 2 ≠ 0 → 1 ≤ p.f 0 ∧ p.f 0 ≤ 30000) := by
  refine ⟨fun h0 => ?_, fun h0 => ?_⟩
  · unfold validB at h; rw [if_pos h0] at h; exact pcs_f (eqP_eq h) 0 (by decide) (by decide)
  · unfold validB at h; rw [if_neg h0] at h; simp only [Bool.and_eq_true] at h
    have := h.1.1.1; unfold rg at this; exact of_decide_eq_true this
theorem right_same (t : Nat → Pr) (k : Nat) : allB (rrightQ t) k = allB (rightQ t) k := by
  induction k with
  | zero => rfl
  | succ k ih =>
    rw [allB_succ, allB_succ, ih]
    cases ha : allB (rightQ t) k
    · rfl
    simp only [Bool.true_and]
    unfold rightQ rrightQ
    cases hv : validB (t k)
    · rfl
    simp only [Bool.true_and]
    have hval : ∀ i, i < k → validB (t i) = true := fun i hi => by
      have := allB_true ha hi; unfold rightQ at this; simp only [Bool.and_eq_true] at this; exact this.1
    by_cases h0 : (t k).f 2 = 0
    · have e : ((t k).f 2 != 0) = false := by simp [h0]
      rw [e]
      exact allB_mk fun i hi => by unfold dupP; rw [e]; rfl
    · have e : ((t k).f 2 != 0) = true := by simp [h0]
      rw [e, Bool.true_and]
      have hp := (valid_pid hv).2 h0
      cases hs : seen t k ((t k).f 0)
      · refine allB_mk fun i hi => ?_
        unfold dupP
        have : ((t k).f 0 == (t i).f 0) = false := by
          rw [← Bool.not_eq_true]; intro hh
          have : seen t k ((t k).f 0) = true := List.any_eq_true.2 ⟨i, List.mem_range.2 hi, by simp at hh; simp [hh]⟩
          rw [hs] at this; cases this
        rw [this]; simp
      · obtain ⟨i, hi, hx⟩ := List.any_eq_true.1 hs
        have hi := List.mem_range.1 hi
        have hx : (t i).f 0 = (t k).f 0 := by simpa using hx
        refine allB_false _ k i hi ?_
        unfold dupP
        have e2 : ((t i).f 2 != 0) = true := by
          by_cases z : (t i).f 2 = 0
          · have := (valid_pid (hval i hi)).1 z; omega
          · simp [z]
        rw [e, e2]; simp [hx]
set_option maxHeartbeats 8000000 in
set_option maxRecDepth 100000 in
theorem rright_v (t : Nat → Pr) (w : World) : Calls Try.prog 12 #[.agg (tcs t)] w fun e w' => e = .returned (.bool (rightB t)) ∧ Below w.heap.size w w' := by
  have hE : rightB t = allB (rrightQ t) 8 := (right_same t 8).symm
  rw [hE]; clear hE
  have hk0 := Blk.new w t
  have hB0 := Below.alloc (Below.refl w.heap.size w) (Nat.le_refl _) (.cells (tcs t) 29)
  go_enter Try.func12, Try.ntmps12
  go_wp2
  go_loopw [3] (fun v wr => ∃ i : Nat, i ≤ 8 ∧ v = .int .i64 i ∧ Blk wr w.heap.size t ∧ Below w.heap.size w wr ∧ Hid (allB (rrightQ t) i = true)) (fun v _ => 8 - (intOf v).toNat)
  case atStart => exact ⟨0, by omega, rfl, hk0, hB0, rfl⟩
  case round =>
    clear hk0 hB0
    obtain ⟨i, hi, rfl, hblk, hbel, hv⟩ := hrel
    have HB := hidI hbel; clear hbel
    by_cases hi8 : i < 8
    · have hlt : (i : Int) < 8 := by omega
      have hlo : (0 : Int) ≤ i := by omega
      have hs := allB_succ (rrightQ t) i
      have hff := allB_false (rrightQ t) 8 i hi8
      have hQ : rrightQ t i = (validB (t i) && allB (dupP t i) i) := rfl
      have hvl := fun W => rvalid_v (t i) W
      cases g0 : validB (t i)
      · simp only [g0] at hvl
        have HF : Hid (allB (rrightQ t) 8 = false) := hidI (hff (by rw [hQ, g0]; rfl))
        clear hs hff hQ g0 hv
        go_wp2_with (first
          | (refine st_load28 (by rfl) rfl rfl hblk hi8 ?_)
          | (go_at_call 29; refine (hvl _).mono ?_; rintro e w3 ⟨rfl, hb3⟩; have HB3 := hidI (HB.out.trans (hb3.mono HB.out.size)); clear hvl hb3))
        go_ret
        exact ⟨ret_bool HF.out.symm, HB3.out⟩
      simp only [g0] at hvl
      have HQ : Hid (rrightQ t i = allB (dupP t i) i) := by rw [Hid, hQ, g0]; rfl
      have HS := hidI hs
      have HFF := hidI hff
      clear hs hff hQ g0
      go_wp2_with (first
        | (refine st_load28 (by rfl) rfl rfl hblk hi8 ?_)
        | (go_at_call 29; refine (hvl _).mono ?_; rintro e w3 ⟨rfl, hb3⟩; have HB3 := hidI (HB.out.trans (hb3.mono HB.out.size)); have hblk3 := hblk.below hb3 hblk.lt; clear hvl hb3 hblk HB))
      go_loopw [4] (fun v wr => ∃ k : Nat, k ≤ i ∧ v = .int .i64 k ∧ Blk wr w.heap.size t ∧ Below w.heap.size w wr ∧ Hid (allB (dupP t i) k = true)) (fun v _ => i - (intOf v).toNat)
      case atStart => exact ⟨0, by omega, rfl, hblk3, HB3.out, rfl⟩
      case round =>
        clear hblk3 HB3
        rename_i wr2 _ _
        obtain ⟨k, hk, rfl, hblk2, hbel2, hv2⟩ := hrel
        have HB2 := hidI hbel2; clear hbel2
        by_cases hki : k < i
        · have hki' : (k : Int) < i := by omega
          have hki2 : decide ((k : Int) < i) = true := by simp; omega
          have hk8 : k < 8 := by omega
          have hlt2 : (k : Int) < 8 := by omega
          have hlo2 : (0 : Int) ≤ k := by omega
          have hs2 := allB_succ (dupP t i) k
          have hff2 := allB_false (dupP t i) i k hki
          have hD : dupP t i k = !(((t i).f 2 != 0 && (t k).f 2 != 0) && (t i).f 0 == (t k).f 0) := rfl
          have HK := hidI hk8
          cases b1 : ((t i).f 2 != 0)
          · have HD : Hid (allB (dupP t i) (k + 1) = true) := by rw [Hid, hs2, hv2.out, hD, b1]; rfl
            clear hs2 hff2 hD hv2
            go_wp2
            refine wp_region_held_drew (S := fun wh => Blk wh w.heap.size t ∧ Below w.heap.size w wh) (by kernel_rfl) (⟨hblk2.drew, HB2.out.drew⟩) (fun hHeld => ?_)
            show wpAnyH _ _ _ _ _ (22 + 1) #[false, false, false, false, false, false, false, false, false, false, false, false, false, false, false, false, false, false, false, false, false, false, false] _ _
            refine wpAnyH_take (i := 0) (v := .int .i64 (i : Int)) rfl (by kernel_rfl) (by kernel_rfl) (by kernel_rfl) (fun _ _ _ h => h) (Or.inl ⟨by rfl, fun _ _ => rfl⟩) hHeld ?_
            show wpAnyH _ _ _ _ _ _ _ (Act.put _ (some 19) _) _
            simp only [Act.put, List.setIfInBounds_toArray, List.set_cons_zero, List.set_cons_succ]
            refine wpAnyH_take (i := 1) (v := .pointer (some ⟨w.heap.size, i * 29, none⟩)) rfl (by kernel_rfl) (by kernel_rfl) (by kernel_rfl) (fun _ _ _ h => h) (Or.inl ⟨by rfl, fun wh hS => by go_simp⟩) hHeld ?_
            show wpAnyH _ _ _ _ _ _ _ (Act.put _ (some 20) _) _
            simp only [Act.put, List.setIfInBounds_toArray, List.set_cons_zero, List.set_cons_succ]
            refine wpAnyH_take (i := 2) (v := .pointer (some ⟨w.heap.size, i * 29 + 2, none⟩)) rfl (by kernel_rfl) (by kernel_rfl) (by kernel_rfl) (fun _ _ _ h => h) (Or.inl ⟨by rfl, fun _ _ => rfl⟩) hHeld ?_
            show wpAnyH _ _ _ _ _ _ _ (Act.put _ (some 21) _) _
            simp only [Act.put, List.setIfInBounds_toArray, List.set_cons_zero, List.set_cons_succ]
            refine wpAnyH_take (i := 3) (v := .int .i64 ((t i).f 2)) rfl (by kernel_rfl) (by kernel_rfl) (by kernel_rfl) (fun _ _ _ h => h) (yieldsIf_cell (by rfl) rfl rfl (fun wh hS => hS.1.int i 2 hi8 (by decide) (by decide)) isInt3) hHeld ?_
            show wpAnyH _ _ _ _ _ _ _ (Act.put _ (some 22) _) _
            simp only [Act.put, List.setIfInBounds_toArray, List.set_cons_zero, List.set_cons_succ]
            refine wpAnyH_take (i := 4) (v := .bool false) rfl (by kernel_rfl) (by kernel_rfl) (by kernel_rfl) (fun _ _ _ h => h) (yb (b := ((t i).f 2) != 0) (by rfl) (fun _ _ => rfl) b1) hHeld ?_
            show wpAnyH _ _ _ _ _ _ _ (Act.put _ (some 23) _) _
            simp only [Act.put, List.setIfInBounds_toArray, List.set_cons_zero, List.set_cons_succ]
            refine wpAnyH_take (i := 5) (v := .bool false) rfl (by kernel_rfl) (by kernel_rfl) (by kernel_rfl) (fun _ _ _ h => h) (Or.inl ⟨by rfl, fun _ _ => rfl⟩) hHeld ?_
            show wpAnyH _ _ _ _ _ _ _ (Act.put _ (some 24) _) _
            simp only [Act.put, List.setIfInBounds_toArray, List.set_cons_zero, List.set_cons_succ]
            refine wpAnyH_take (i := 6) (v := undef) rfl (by kernel_rfl) (by kernel_rfl) (by kernel_rfl) (fun _ _ _ h => h) (Or.inr ⟨by rfl, rfl⟩) hHeld ?_
            show wpAnyH _ _ _ _ _ _ _ (Act.put _ (some 25) _) _
            simp only [Act.put, List.setIfInBounds_toArray, List.set_cons_zero, List.set_cons_succ]
            refine wpAnyH_take (i := 7) (v := undef) rfl (by kernel_rfl) (by kernel_rfl) (by kernel_rfl) (fun _ _ _ h => h) (Or.inr ⟨by rfl, rfl⟩) hHeld ?_
            show wpAnyH _ _ _ _ _ _ _ (Act.put _ (some 26) _) _
            simp only [Act.put, List.setIfInBounds_toArray, List.set_cons_zero, List.set_cons_succ]
            refine wpAnyH_take (i := 8) (v := undef) rfl (by kernel_rfl) (by kernel_rfl) (by kernel_rfl) (fun _ _ _ h => h) (Or.inr ⟨by rfl, rfl⟩) hHeld ?_
            show wpAnyH _ _ _ _ _ _ _ (Act.put _ (some 27) _) _
            simp only [Act.put, List.setIfInBounds_toArray, List.set_cons_zero, List.set_cons_succ]
            refine wpAnyH_take (i := 9) (v := undef) rfl (by kernel_rfl) (by kernel_rfl) (by kernel_rfl) (fun _ _ _ h => h) (Or.inr ⟨by rfl, rfl⟩) hHeld ?_
            show wpAnyH _ _ _ _ _ _ _ (Act.put _ (some 28) _) _
            simp only [Act.put, List.setIfInBounds_toArray, List.set_cons_zero, List.set_cons_succ]
            refine wpAnyH_take (i := 10) (v := undef) rfl (by kernel_rfl) (by kernel_rfl) (by kernel_rfl) (fun _ _ _ h => h) (Or.inr ⟨by rfl, rfl⟩) hHeld ?_
            show wpAnyH _ _ _ _ _ _ _ (Act.put _ (some 29) _) _
            simp only [Act.put, List.setIfInBounds_toArray, List.set_cons_zero, List.set_cons_succ]
            refine wpAnyH_take (i := 11) (v := .bool false) rfl (by kernel_rfl) (by kernel_rfl) (by kernel_rfl) (fun _ _ _ h => h) (Or.inl ⟨by rfl, fun _ _ => rfl⟩) hHeld ?_
            show wpAnyH _ _ _ _ _ _ _ (Act.put _ (some 30) _) _
            simp only [Act.put, List.setIfInBounds_toArray, List.set_cons_zero, List.set_cons_succ]
            refine wpAnyH_take (i := 12) (v := .bool false) rfl (by kernel_rfl) (by kernel_rfl) (by kernel_rfl) (fun _ _ _ h => h) (Or.inl ⟨by rfl, fun _ _ => rfl⟩) hHeld ?_
            show wpAnyH _ _ _ _ _ _ _ (Act.put _ (some 31) _) _
            simp only [Act.put, List.setIfInBounds_toArray, List.set_cons_zero, List.set_cons_succ]
            refine wpAnyH_take (i := 13) (v := undef) rfl (by kernel_rfl) (by kernel_rfl) (by kernel_rfl) (fun _ _ _ h => h) (Or.inr ⟨by rfl, rfl⟩) hHeld ?_
            show wpAnyH _ _ _ _ _ _ _ (Act.put _ (some 32) _) _
            simp only [Act.put, List.setIfInBounds_toArray, List.set_cons_zero, List.set_cons_succ]
            refine wpAnyH_take (i := 14) (v := undef) rfl (by kernel_rfl) (by kernel_rfl) (by kernel_rfl) (fun _ _ _ h => h) (Or.inr ⟨by rfl, rfl⟩) hHeld ?_
            show wpAnyH _ _ _ _ _ _ _ (Act.put _ (some 33) _) _
            simp only [Act.put, List.setIfInBounds_toArray, List.set_cons_zero, List.set_cons_succ]
            refine wpAnyH_take (i := 15) (v := undef) rfl (by kernel_rfl) (by kernel_rfl) (by kernel_rfl) (fun _ _ _ h => h) (Or.inr ⟨by rfl, rfl⟩) hHeld ?_
            show wpAnyH _ _ _ _ _ _ _ (Act.put _ (some 34) _) _
            simp only [Act.put, List.setIfInBounds_toArray, List.set_cons_zero, List.set_cons_succ]
            refine wpAnyH_take (i := 16) (v := undef) rfl (by kernel_rfl) (by kernel_rfl) (by kernel_rfl) (fun _ _ _ h => h) (Or.inr ⟨by rfl, rfl⟩) hHeld ?_
            show wpAnyH _ _ _ _ _ _ _ (Act.put _ (some 35) _) _
            simp only [Act.put, List.setIfInBounds_toArray, List.set_cons_zero, List.set_cons_succ]
            refine wpAnyH_take (i := 17) (v := undef) rfl (by kernel_rfl) (by kernel_rfl) (by kernel_rfl) (fun _ _ _ h => h) (Or.inr ⟨by rfl, rfl⟩) hHeld ?_
            show wpAnyH _ _ _ _ _ _ _ (Act.put _ (some 36) _) _
            simp only [Act.put, List.setIfInBounds_toArray, List.set_cons_zero, List.set_cons_succ]
            refine wpAnyH_take (i := 18) (v := undef) rfl (by kernel_rfl) (by kernel_rfl) (by kernel_rfl) (fun _ _ _ h => h) (Or.inr ⟨by rfl, rfl⟩) hHeld ?_
            show wpAnyH _ _ _ _ _ _ _ (Act.put _ (some 37) _) _
            simp only [Act.put, List.setIfInBounds_toArray, List.set_cons_zero, List.set_cons_succ]
            refine wpAnyH_take (i := 19) (v := undef) rfl (by kernel_rfl) (by kernel_rfl) (by kernel_rfl) (fun _ _ _ h => h) (Or.inr ⟨by rfl, rfl⟩) hHeld ?_
            show wpAnyH _ _ _ _ _ _ _ (Act.put _ (some 38) _) _
            simp only [Act.put, List.setIfInBounds_toArray, List.set_cons_zero, List.set_cons_succ]
            refine wpAnyH_take (i := 20) (v := undef) rfl (by kernel_rfl) (by kernel_rfl) (by kernel_rfl) (fun _ _ _ h => h) (Or.inr ⟨by rfl, rfl⟩) hHeld ?_
            show wpAnyH _ _ _ _ _ _ _ (Act.put _ (some 39) _) _
            simp only [Act.put, List.setIfInBounds_toArray, List.set_cons_zero, List.set_cons_succ]
            refine wpAnyH_take (i := 21) (v := undef) rfl (by kernel_rfl) (by kernel_rfl) (by kernel_rfl) (fun _ _ _ h => h) (Or.inr ⟨by rfl, rfl⟩) hHeld ?_
            show wpAnyH _ _ _ _ _ _ _ (Act.put _ (some 40) _) _
            simp only [Act.put, List.setIfInBounds_toArray, List.set_cons_zero, List.set_cons_succ]
            refine wpAnyH_take (i := 22) (v := .bool false) rfl (by kernel_rfl) (by kernel_rfl) (by kernel_rfl) (fun _ _ _ h => h) (Or.inl ⟨by rfl, fun _ _ => rfl⟩) hHeld ?_
            show wpAnyH _ _ _ _ _ _ _ (Act.put _ (some 41) _) _
            simp only [Act.put, List.setIfInBounds_toArray, List.set_cons_zero, List.set_cons_succ]
            refine wpAnyH_done (by kernel_rfl) ?_ _
            have hblk4 := hHeld.1
            have HB4 := hidI hHeld.2
            clear hHeld
            go_wp2
            go_roundw
            case measure => simp [intOf]; omega
            case rel => exact ⟨k + 1, by omega, by go_num, hblk4, HB4.out, HD⟩
          cases b2 : ((t k).f 2 != 0)
          · have HD : Hid (allB (dupP t i) (k + 1) = true) := by rw [Hid, hs2, hv2.out, hD, b1, b2]; rfl
            clear hs2 hff2 hD hv2
            go_wp2
            refine wp_region_held_drew (S := fun wh => Blk wh w.heap.size t ∧ Below w.heap.size w wh) (by kernel_rfl) (⟨hblk2.drew, HB2.out.drew⟩) (fun hHeld => ?_)
            show wpAnyH _ _ _ _ _ (22 + 1) #[false, false, false, false, false, false, false, false, false, false, false, false, false, false, false, false, false, false, false, false, false, false, false] _ _
            refine wpAnyH_take (i := 0) (v := .int .i64 (i : Int)) rfl (by kernel_rfl) (by kernel_rfl) (by kernel_rfl) (fun _ _ _ h => h) (Or.inl ⟨by rfl, fun _ _ => rfl⟩) hHeld ?_
            show wpAnyH _ _ _ _ _ _ _ (Act.put _ (some 19) _) _
            simp only [Act.put, List.setIfInBounds_toArray, List.set_cons_zero, List.set_cons_succ]
            refine wpAnyH_take (i := 1) (v := .pointer (some ⟨w.heap.size, i * 29, none⟩)) rfl (by kernel_rfl) (by kernel_rfl) (by kernel_rfl) (fun _ _ _ h => h) (Or.inl ⟨by rfl, fun wh hS => by go_simp⟩) hHeld ?_
            show wpAnyH _ _ _ _ _ _ _ (Act.put _ (some 20) _) _
            simp only [Act.put, List.setIfInBounds_toArray, List.set_cons_zero, List.set_cons_succ]
            refine wpAnyH_take (i := 2) (v := .pointer (some ⟨w.heap.size, i * 29 + 2, none⟩)) rfl (by kernel_rfl) (by kernel_rfl) (by kernel_rfl) (fun _ _ _ h => h) (Or.inl ⟨by rfl, fun _ _ => rfl⟩) hHeld ?_
            show wpAnyH _ _ _ _ _ _ _ (Act.put _ (some 21) _) _
            simp only [Act.put, List.setIfInBounds_toArray, List.set_cons_zero, List.set_cons_succ]
            refine wpAnyH_take (i := 3) (v := .int .i64 ((t i).f 2)) rfl (by kernel_rfl) (by kernel_rfl) (by kernel_rfl) (fun _ _ _ h => h) (yieldsIf_cell (by rfl) rfl rfl (fun wh hS => hS.1.int i 2 hi8 (by decide) (by decide)) isInt3) hHeld ?_
            show wpAnyH _ _ _ _ _ _ _ (Act.put _ (some 22) _) _
            simp only [Act.put, List.setIfInBounds_toArray, List.set_cons_zero, List.set_cons_succ]
            refine wpAnyH_take (i := 4) (v := .bool true) rfl (by kernel_rfl) (by kernel_rfl) (by kernel_rfl) (fun _ _ _ h => h) (yb (b := ((t i).f 2) != 0) (by rfl) (fun _ _ => rfl) b1) hHeld ?_
            show wpAnyH _ _ _ _ _ _ _ (Act.put _ (some 23) _) _
            simp only [Act.put, List.setIfInBounds_toArray, List.set_cons_zero, List.set_cons_succ]
            refine wpAnyH_take (i := 5) (v := .bool true) rfl (by kernel_rfl) (by kernel_rfl) (by kernel_rfl) (fun _ _ _ h => h) (Or.inl ⟨by rfl, fun _ _ => rfl⟩) hHeld ?_
            show wpAnyH _ _ _ _ _ _ _ (Act.put _ (some 24) _) _
            simp only [Act.put, List.setIfInBounds_toArray, List.set_cons_zero, List.set_cons_succ]
            refine wpAnyH_take (i := 6) (v := .int .i64 (k : Int)) rfl (by kernel_rfl) (by kernel_rfl) (by kernel_rfl) (fun _ _ _ h => h) (Or.inl ⟨by rfl, fun _ _ => rfl⟩) hHeld ?_
            show wpAnyH _ _ _ _ _ _ _ (Act.put _ (some 25) _) _
            simp only [Act.put, List.setIfInBounds_toArray, List.set_cons_zero, List.set_cons_succ]
            refine wpAnyH_take (i := 7) (v := .pointer (some ⟨w.heap.size, k * 29, none⟩)) rfl (by kernel_rfl) (by kernel_rfl) (by kernel_rfl) (fun _ _ _ h => h) (Or.inl ⟨by rfl, fun wh hS => by go_simp⟩) hHeld ?_
            show wpAnyH _ _ _ _ _ _ _ (Act.put _ (some 26) _) _
            simp only [Act.put, List.setIfInBounds_toArray, List.set_cons_zero, List.set_cons_succ]
            refine wpAnyH_take (i := 8) (v := .pointer (some ⟨w.heap.size, k * 29 + 2, none⟩)) rfl (by kernel_rfl) (by kernel_rfl) (by kernel_rfl) (fun _ _ _ h => h) (Or.inl ⟨by rfl, fun _ _ => rfl⟩) hHeld ?_
            show wpAnyH _ _ _ _ _ _ _ (Act.put _ (some 27) _) _
            simp only [Act.put, List.setIfInBounds_toArray, List.set_cons_zero, List.set_cons_succ]
            refine wpAnyH_take (i := 9) (v := .int .i64 ((t k).f 2)) rfl (by kernel_rfl) (by kernel_rfl) (by kernel_rfl) (fun _ _ _ h => h) (yieldsIf_cell (by rfl) rfl rfl (fun wh hS => hS.1.int k 2 hk8 (by decide) (by decide)) isInt3) hHeld ?_
            show wpAnyH _ _ _ _ _ _ _ (Act.put _ (some 28) _) _
            simp only [Act.put, List.setIfInBounds_toArray, List.set_cons_zero, List.set_cons_succ]
            refine wpAnyH_take (i := 10) (v := .bool false) rfl (by kernel_rfl) (by kernel_rfl) (by kernel_rfl) (fun _ _ _ h => h) (yb (b := ((t k).f 2) != 0) (by rfl) (fun _ _ => rfl) b2) hHeld ?_
            show wpAnyH _ _ _ _ _ _ _ (Act.put _ (some 29) _) _
            simp only [Act.put, List.setIfInBounds_toArray, List.set_cons_zero, List.set_cons_succ]
            refine wpAnyH_take (i := 11) (v := .bool false) rfl (by kernel_rfl) (by kernel_rfl) (by kernel_rfl) (fun _ _ _ h => h) (Or.inl ⟨by rfl, fun _ _ => rfl⟩) hHeld ?_
            show wpAnyH _ _ _ _ _ _ _ (Act.put _ (some 30) _) _
            simp only [Act.put, List.setIfInBounds_toArray, List.set_cons_zero, List.set_cons_succ]
            refine wpAnyH_take (i := 12) (v := .bool false) rfl (by kernel_rfl) (by kernel_rfl) (by kernel_rfl) (fun _ _ _ h => h) (Or.inl ⟨by rfl, fun _ _ => rfl⟩) hHeld ?_
            show wpAnyH _ _ _ _ _ _ _ (Act.put _ (some 31) _) _
            simp only [Act.put, List.setIfInBounds_toArray, List.set_cons_zero, List.set_cons_succ]
            refine wpAnyH_take (i := 13) (v := undef) rfl (by kernel_rfl) (by kernel_rfl) (by kernel_rfl) (fun _ _ _ h => h) (Or.inr ⟨by rfl, rfl⟩) hHeld ?_
            show wpAnyH _ _ _ _ _ _ _ (Act.put _ (some 32) _) _
            simp only [Act.put, List.setIfInBounds_toArray, List.set_cons_zero, List.set_cons_succ]
            refine wpAnyH_take (i := 14) (v := undef) rfl (by kernel_rfl) (by kernel_rfl) (by kernel_rfl) (fun _ _ _ h => h) (Or.inr ⟨by rfl, rfl⟩) hHeld ?_
            show wpAnyH _ _ _ _ _ _ _ (Act.put _ (some 33) _) _
            simp only [Act.put, List.setIfInBounds_toArray, List.set_cons_zero, List.set_cons_succ]
            refine wpAnyH_take (i := 15) (v := undef) rfl (by kernel_rfl) (by kernel_rfl) (by kernel_rfl) (fun _ _ _ h => h) (Or.inr ⟨by rfl, rfl⟩) hHeld ?_
            show wpAnyH _ _ _ _ _ _ _ (Act.put _ (some 34) _) _
            simp only [Act.put, List.setIfInBounds_toArray, List.set_cons_zero, List.set_cons_succ]
            refine wpAnyH_take (i := 16) (v := undef) rfl (by kernel_rfl) (by kernel_rfl) (by kernel_rfl) (fun _ _ _ h => h) (Or.inr ⟨by rfl, rfl⟩) hHeld ?_
            show wpAnyH _ _ _ _ _ _ _ (Act.put _ (some 35) _) _
            simp only [Act.put, List.setIfInBounds_toArray, List.set_cons_zero, List.set_cons_succ]
            refine wpAnyH_take (i := 17) (v := undef) rfl (by kernel_rfl) (by kernel_rfl) (by kernel_rfl) (fun _ _ _ h => h) (Or.inr ⟨by rfl, rfl⟩) hHeld ?_
            show wpAnyH _ _ _ _ _ _ _ (Act.put _ (some 36) _) _
            simp only [Act.put, List.setIfInBounds_toArray, List.set_cons_zero, List.set_cons_succ]
            refine wpAnyH_take (i := 18) (v := undef) rfl (by kernel_rfl) (by kernel_rfl) (by kernel_rfl) (fun _ _ _ h => h) (Or.inr ⟨by rfl, rfl⟩) hHeld ?_
            show wpAnyH _ _ _ _ _ _ _ (Act.put _ (some 37) _) _
            simp only [Act.put, List.setIfInBounds_toArray, List.set_cons_zero, List.set_cons_succ]
            refine wpAnyH_take (i := 19) (v := undef) rfl (by kernel_rfl) (by kernel_rfl) (by kernel_rfl) (fun _ _ _ h => h) (Or.inr ⟨by rfl, rfl⟩) hHeld ?_
            show wpAnyH _ _ _ _ _ _ _ (Act.put _ (some 38) _) _
            simp only [Act.put, List.setIfInBounds_toArray, List.set_cons_zero, List.set_cons_succ]
            refine wpAnyH_take (i := 20) (v := undef) rfl (by kernel_rfl) (by kernel_rfl) (by kernel_rfl) (fun _ _ _ h => h) (Or.inr ⟨by rfl, rfl⟩) hHeld ?_
            show wpAnyH _ _ _ _ _ _ _ (Act.put _ (some 39) _) _
            simp only [Act.put, List.setIfInBounds_toArray, List.set_cons_zero, List.set_cons_succ]
            refine wpAnyH_take (i := 21) (v := undef) rfl (by kernel_rfl) (by kernel_rfl) (by kernel_rfl) (fun _ _ _ h => h) (Or.inr ⟨by rfl, rfl⟩) hHeld ?_
            show wpAnyH _ _ _ _ _ _ _ (Act.put _ (some 40) _) _
            simp only [Act.put, List.setIfInBounds_toArray, List.set_cons_zero, List.set_cons_succ]
            refine wpAnyH_take (i := 22) (v := .bool false) rfl (by kernel_rfl) (by kernel_rfl) (by kernel_rfl) (fun _ _ _ h => h) (Or.inl ⟨by rfl, fun _ _ => rfl⟩) hHeld ?_
            show wpAnyH _ _ _ _ _ _ _ (Act.put _ (some 41) _) _
            simp only [Act.put, List.setIfInBounds_toArray, List.set_cons_zero, List.set_cons_succ]
            refine wpAnyH_done (by kernel_rfl) ?_ _
            have hblk4 := hHeld.1
            have HB4 := hidI hHeld.2
            clear hHeld
            go_wp2
            go_roundw
            case measure => simp [intOf]; omega
            case rel => exact ⟨k + 1, by omega, by go_num, hblk4, HB4.out, HD⟩
          cases b3 : ((t i).f 0 == (t k).f 0)
          · have HD : Hid (allB (dupP t i) (k + 1) = true) := by rw [Hid, hs2, hv2.out, hD, b1, b2, b3]; rfl
            clear hs2 hff2 hD hv2
            go_wp2
            refine wp_region_held_drew (S := fun wh => Blk wh w.heap.size t ∧ Below w.heap.size w wh) (by kernel_rfl) (⟨hblk2.drew, HB2.out.drew⟩) (fun hHeld => ?_)
            show wpAnyH _ _ _ _ _ (22 + 1) #[false, false, false, false, false, false, false, false, false, false, false, false, false, false, false, false, false, false, false, false, false, false, false] _ _
            refine wpAnyH_take (i := 0) (v := .int .i64 (i : Int)) rfl (by kernel_rfl) (by kernel_rfl) (by kernel_rfl) (fun _ _ _ h => h) (Or.inl ⟨by rfl, fun _ _ => rfl⟩) hHeld ?_
            show wpAnyH _ _ _ _ _ _ _ (Act.put _ (some 19) _) _
            simp only [Act.put, List.setIfInBounds_toArray, List.set_cons_zero, List.set_cons_succ]
            refine wpAnyH_take (i := 1) (v := .pointer (some ⟨w.heap.size, i * 29, none⟩)) rfl (by kernel_rfl) (by kernel_rfl) (by kernel_rfl) (fun _ _ _ h => h) (Or.inl ⟨by rfl, fun wh hS => by go_simp⟩) hHeld ?_
            show wpAnyH _ _ _ _ _ _ _ (Act.put _ (some 20) _) _
            simp only [Act.put, List.setIfInBounds_toArray, List.set_cons_zero, List.set_cons_succ]
            refine wpAnyH_take (i := 2) (v := .pointer (some ⟨w.heap.size, i * 29 + 2, none⟩)) rfl (by kernel_rfl) (by kernel_rfl) (by kernel_rfl) (fun _ _ _ h => h) (Or.inl ⟨by rfl, fun _ _ => rfl⟩) hHeld ?_
            show wpAnyH _ _ _ _ _ _ _ (Act.put _ (some 21) _) _
            simp only [Act.put, List.setIfInBounds_toArray, List.set_cons_zero, List.set_cons_succ]
            refine wpAnyH_take (i := 3) (v := .int .i64 ((t i).f 2)) rfl (by kernel_rfl) (by kernel_rfl) (by kernel_rfl) (fun _ _ _ h => h) (yieldsIf_cell (by rfl) rfl rfl (fun wh hS => hS.1.int i 2 hi8 (by decide) (by decide)) isInt3) hHeld ?_
            show wpAnyH _ _ _ _ _ _ _ (Act.put _ (some 22) _) _
            simp only [Act.put, List.setIfInBounds_toArray, List.set_cons_zero, List.set_cons_succ]
            refine wpAnyH_take (i := 4) (v := .bool true) rfl (by kernel_rfl) (by kernel_rfl) (by kernel_rfl) (fun _ _ _ h => h) (yb (b := ((t i).f 2) != 0) (by rfl) (fun _ _ => rfl) b1) hHeld ?_
            show wpAnyH _ _ _ _ _ _ _ (Act.put _ (some 23) _) _
            simp only [Act.put, List.setIfInBounds_toArray, List.set_cons_zero, List.set_cons_succ]
            refine wpAnyH_take (i := 5) (v := .bool true) rfl (by kernel_rfl) (by kernel_rfl) (by kernel_rfl) (fun _ _ _ h => h) (Or.inl ⟨by rfl, fun _ _ => rfl⟩) hHeld ?_
            show wpAnyH _ _ _ _ _ _ _ (Act.put _ (some 24) _) _
            simp only [Act.put, List.setIfInBounds_toArray, List.set_cons_zero, List.set_cons_succ]
            refine wpAnyH_take (i := 6) (v := .int .i64 (k : Int)) rfl (by kernel_rfl) (by kernel_rfl) (by kernel_rfl) (fun _ _ _ h => h) (Or.inl ⟨by rfl, fun _ _ => rfl⟩) hHeld ?_
            show wpAnyH _ _ _ _ _ _ _ (Act.put _ (some 25) _) _
            simp only [Act.put, List.setIfInBounds_toArray, List.set_cons_zero, List.set_cons_succ]
            refine wpAnyH_take (i := 7) (v := .pointer (some ⟨w.heap.size, k * 29, none⟩)) rfl (by kernel_rfl) (by kernel_rfl) (by kernel_rfl) (fun _ _ _ h => h) (Or.inl ⟨by rfl, fun wh hS => by go_simp⟩) hHeld ?_
            show wpAnyH _ _ _ _ _ _ _ (Act.put _ (some 26) _) _
            simp only [Act.put, List.setIfInBounds_toArray, List.set_cons_zero, List.set_cons_succ]
            refine wpAnyH_take (i := 8) (v := .pointer (some ⟨w.heap.size, k * 29 + 2, none⟩)) rfl (by kernel_rfl) (by kernel_rfl) (by kernel_rfl) (fun _ _ _ h => h) (Or.inl ⟨by rfl, fun _ _ => rfl⟩) hHeld ?_
            show wpAnyH _ _ _ _ _ _ _ (Act.put _ (some 27) _) _
            simp only [Act.put, List.setIfInBounds_toArray, List.set_cons_zero, List.set_cons_succ]
            refine wpAnyH_take (i := 9) (v := .int .i64 ((t k).f 2)) rfl (by kernel_rfl) (by kernel_rfl) (by kernel_rfl) (fun _ _ _ h => h) (yieldsIf_cell (by rfl) rfl rfl (fun wh hS => hS.1.int k 2 hk8 (by decide) (by decide)) isInt3) hHeld ?_
            show wpAnyH _ _ _ _ _ _ _ (Act.put _ (some 28) _) _
            simp only [Act.put, List.setIfInBounds_toArray, List.set_cons_zero, List.set_cons_succ]
            refine wpAnyH_take (i := 10) (v := .bool true) rfl (by kernel_rfl) (by kernel_rfl) (by kernel_rfl) (fun _ _ _ h => h) (yb (b := ((t k).f 2) != 0) (by rfl) (fun _ _ => rfl) b2) hHeld ?_
            show wpAnyH _ _ _ _ _ _ _ (Act.put _ (some 29) _) _
            simp only [Act.put, List.setIfInBounds_toArray, List.set_cons_zero, List.set_cons_succ]
            refine wpAnyH_take (i := 11) (v := .bool true) rfl (by kernel_rfl) (by kernel_rfl) (by kernel_rfl) (fun _ _ _ h => h) (Or.inl ⟨by rfl, fun _ _ => rfl⟩) hHeld ?_
            show wpAnyH _ _ _ _ _ _ _ (Act.put _ (some 30) _) _
            simp only [Act.put, List.setIfInBounds_toArray, List.set_cons_zero, List.set_cons_succ]
            refine wpAnyH_take (i := 12) (v := .bool true) rfl (by kernel_rfl) (by kernel_rfl) (by kernel_rfl) (fun _ _ _ h => h) (Or.inl ⟨by rfl, fun _ _ => rfl⟩) hHeld ?_
            show wpAnyH _ _ _ _ _ _ _ (Act.put _ (some 31) _) _
            simp only [Act.put, List.setIfInBounds_toArray, List.set_cons_zero, List.set_cons_succ]
            refine wpAnyH_take (i := 13) (v := .int .i64 (i : Int)) rfl (by kernel_rfl) (by kernel_rfl) (by kernel_rfl) (fun _ _ _ h => h) (Or.inl ⟨by rfl, fun _ _ => rfl⟩) hHeld ?_
            show wpAnyH _ _ _ _ _ _ _ (Act.put _ (some 32) _) _
            simp only [Act.put, List.setIfInBounds_toArray, List.set_cons_zero, List.set_cons_succ]
            refine wpAnyH_take (i := 14) (v := .pointer (some ⟨w.heap.size, i * 29, none⟩)) rfl (by kernel_rfl) (by kernel_rfl) (by kernel_rfl) (fun _ _ _ h => h) (Or.inl ⟨by rfl, fun wh hS => by go_simp⟩) hHeld ?_
            show wpAnyH _ _ _ _ _ _ _ (Act.put _ (some 33) _) _
            simp only [Act.put, List.setIfInBounds_toArray, List.set_cons_zero, List.set_cons_succ]
            refine wpAnyH_take (i := 15) (v := .pointer (some ⟨w.heap.size, i * 29, none⟩)) rfl (by kernel_rfl) (by kernel_rfl) (by kernel_rfl) (fun _ _ _ h => h) (Or.inl ⟨by rfl, fun _ _ => rfl⟩) hHeld ?_
            show wpAnyH _ _ _ _ _ _ _ (Act.put _ (some 34) _) _
            simp only [Act.put, List.setIfInBounds_toArray, List.set_cons_zero, List.set_cons_succ]
            refine wpAnyH_take (i := 16) (v := .int .i64 ((t i).f 0)) rfl (by kernel_rfl) (by kernel_rfl) (by kernel_rfl) (fun _ _ _ h => h) (yieldsIf_cell (by rfl) rfl rfl (fun wh hS => hS.1.int0 i hi8) isInt3) hHeld ?_
            show wpAnyH _ _ _ _ _ _ _ (Act.put _ (some 35) _) _
            simp only [Act.put, List.setIfInBounds_toArray, List.set_cons_zero, List.set_cons_succ]
            refine wpAnyH_take (i := 17) (v := .int .i64 (k : Int)) rfl (by kernel_rfl) (by kernel_rfl) (by kernel_rfl) (fun _ _ _ h => h) (Or.inl ⟨by rfl, fun _ _ => rfl⟩) hHeld ?_
            show wpAnyH _ _ _ _ _ _ _ (Act.put _ (some 36) _) _
            simp only [Act.put, List.setIfInBounds_toArray, List.set_cons_zero, List.set_cons_succ]
            refine wpAnyH_take (i := 18) (v := .pointer (some ⟨w.heap.size, k * 29, none⟩)) rfl (by kernel_rfl) (by kernel_rfl) (by kernel_rfl) (fun _ _ _ h => h) (Or.inl ⟨by rfl, fun wh hS => by go_simp⟩) hHeld ?_
            show wpAnyH _ _ _ _ _ _ _ (Act.put _ (some 37) _) _
            simp only [Act.put, List.setIfInBounds_toArray, List.set_cons_zero, List.set_cons_succ]
            refine wpAnyH_take (i := 19) (v := .pointer (some ⟨w.heap.size, k * 29, none⟩)) rfl (by kernel_rfl) (by kernel_rfl) (by kernel_rfl) (fun _ _ _ h => h) (Or.inl ⟨by rfl, fun _ _ => rfl⟩) hHeld ?_
            show wpAnyH _ _ _ _ _ _ _ (Act.put _ (some 38) _) _
            simp only [Act.put, List.setIfInBounds_toArray, List.set_cons_zero, List.set_cons_succ]
            refine wpAnyH_take (i := 20) (v := .int .i64 ((t k).f 0)) rfl (by kernel_rfl) (by kernel_rfl) (by kernel_rfl) (fun _ _ _ h => h) (yieldsIf_cell (by rfl) rfl rfl (fun wh hS => hS.1.int0 k hk8) isInt3) hHeld ?_
            show wpAnyH _ _ _ _ _ _ _ (Act.put _ (some 39) _) _
            simp only [Act.put, List.setIfInBounds_toArray, List.set_cons_zero, List.set_cons_succ]
            refine wpAnyH_take (i := 21) (v := .bool false) rfl (by kernel_rfl) (by kernel_rfl) (by kernel_rfl) (fun _ _ _ h => h) (yb (b := ((t i).f 0) == ((t k).f 0)) (by rfl) (fun _ _ => rfl) b3) hHeld ?_
            show wpAnyH _ _ _ _ _ _ _ (Act.put _ (some 40) _) _
            simp only [Act.put, List.setIfInBounds_toArray, List.set_cons_zero, List.set_cons_succ]
            refine wpAnyH_take (i := 22) (v := .bool false) rfl (by kernel_rfl) (by kernel_rfl) (by kernel_rfl) (fun _ _ _ h => h) (Or.inl ⟨by rfl, fun _ _ => rfl⟩) hHeld ?_
            show wpAnyH _ _ _ _ _ _ _ (Act.put _ (some 41) _) _
            simp only [Act.put, List.setIfInBounds_toArray, List.set_cons_zero, List.set_cons_succ]
            refine wpAnyH_done (by kernel_rfl) ?_ _
            have hblk4 := hHeld.1
            have HB4 := hidI hHeld.2
            clear hHeld
            go_wp2
            go_roundw
            case measure => simp [intOf]; omega
            case rel => exact ⟨k + 1, by omega, by go_num, hblk4, HB4.out, HD⟩
          · have hq0 : allB (dupP t i) i = false := hff2 (by rw [hD, b1, b2, b3]; rfl)
            have HF : Hid (allB (rrightQ t) 8 = false) := hidI (HFF.out (by rw [HQ.out, hq0]))
            clear hs2 hff2 hD hv2 hq0
            go_wp2
            refine wp_region_held_drew (S := fun wh => Blk wh w.heap.size t ∧ Below w.heap.size w wh) (by kernel_rfl) (⟨hblk2.drew, HB2.out.drew⟩) (fun hHeld => ?_)
            show wpAnyH _ _ _ _ _ (22 + 1) #[false, false, false, false, false, false, false, false, false, false, false, false, false, false, false, false, false, false, false, false, false, false, false] _ _
            refine wpAnyH_take (i := 0) (v := .int .i64 (i : Int)) rfl (by kernel_rfl) (by kernel_rfl) (by kernel_rfl) (fun _ _ _ h => h) (Or.inl ⟨by rfl, fun _ _ => rfl⟩) hHeld ?_
            show wpAnyH _ _ _ _ _ _ _ (Act.put _ (some 19) _) _
            simp only [Act.put, List.setIfInBounds_toArray, List.set_cons_zero, List.set_cons_succ]
            refine wpAnyH_take (i := 1) (v := .pointer (some ⟨w.heap.size, i * 29, none⟩)) rfl (by kernel_rfl) (by kernel_rfl) (by kernel_rfl) (fun _ _ _ h => h) (Or.inl ⟨by rfl, fun wh hS => by go_simp⟩) hHeld ?_
            show wpAnyH _ _ _ _ _ _ _ (Act.put _ (some 20) _) _
            simp only [Act.put, List.setIfInBounds_toArray, List.set_cons_zero, List.set_cons_succ]
            refine wpAnyH_take (i := 2) (v := .pointer (some ⟨w.heap.size, i * 29 + 2, none⟩)) rfl (by kernel_rfl) (by kernel_rfl) (by kernel_rfl) (fun _ _ _ h => h) (Or.inl ⟨by rfl, fun _ _ => rfl⟩) hHeld ?_
            show wpAnyH _ _ _ _ _ _ _ (Act.put _ (some 21) _) _
            simp only [Act.put, List.setIfInBounds_toArray, List.set_cons_zero, List.set_cons_succ]
            refine wpAnyH_take (i := 3) (v := .int .i64 ((t i).f 2)) rfl (by kernel_rfl) (by kernel_rfl) (by kernel_rfl) (fun _ _ _ h => h) (yieldsIf_cell (by rfl) rfl rfl (fun wh hS => hS.1.int i 2 hi8 (by decide) (by decide)) isInt3) hHeld ?_
            show wpAnyH _ _ _ _ _ _ _ (Act.put _ (some 22) _) _
            simp only [Act.put, List.setIfInBounds_toArray, List.set_cons_zero, List.set_cons_succ]
            refine wpAnyH_take (i := 4) (v := .bool true) rfl (by kernel_rfl) (by kernel_rfl) (by kernel_rfl) (fun _ _ _ h => h) (yb (b := ((t i).f 2) != 0) (by rfl) (fun _ _ => rfl) b1) hHeld ?_
            show wpAnyH _ _ _ _ _ _ _ (Act.put _ (some 23) _) _
            simp only [Act.put, List.setIfInBounds_toArray, List.set_cons_zero, List.set_cons_succ]
            refine wpAnyH_take (i := 5) (v := .bool true) rfl (by kernel_rfl) (by kernel_rfl) (by kernel_rfl) (fun _ _ _ h => h) (Or.inl ⟨by rfl, fun _ _ => rfl⟩) hHeld ?_
            show wpAnyH _ _ _ _ _ _ _ (Act.put _ (some 24) _) _
            simp only [Act.put, List.setIfInBounds_toArray, List.set_cons_zero, List.set_cons_succ]
            refine wpAnyH_take (i := 6) (v := .int .i64 (k : Int)) rfl (by kernel_rfl) (by kernel_rfl) (by kernel_rfl) (fun _ _ _ h => h) (Or.inl ⟨by rfl, fun _ _ => rfl⟩) hHeld ?_
            show wpAnyH _ _ _ _ _ _ _ (Act.put _ (some 25) _) _
            simp only [Act.put, List.setIfInBounds_toArray, List.set_cons_zero, List.set_cons_succ]
            refine wpAnyH_take (i := 7) (v := .pointer (some ⟨w.heap.size, k * 29, none⟩)) rfl (by kernel_rfl) (by kernel_rfl) (by kernel_rfl) (fun _ _ _ h => h) (Or.inl ⟨by rfl, fun wh hS => by go_simp⟩) hHeld ?_
            show wpAnyH _ _ _ _ _ _ _ (Act.put _ (some 26) _) _
            simp only [Act.put, List.setIfInBounds_toArray, List.set_cons_zero, List.set_cons_succ]
            refine wpAnyH_take (i := 8) (v := .pointer (some ⟨w.heap.size, k * 29 + 2, none⟩)) rfl (by kernel_rfl) (by kernel_rfl) (by kernel_rfl) (fun _ _ _ h => h) (Or.inl ⟨by rfl, fun _ _ => rfl⟩) hHeld ?_
            show wpAnyH _ _ _ _ _ _ _ (Act.put _ (some 27) _) _
            simp only [Act.put, List.setIfInBounds_toArray, List.set_cons_zero, List.set_cons_succ]
            refine wpAnyH_take (i := 9) (v := .int .i64 ((t k).f 2)) rfl (by kernel_rfl) (by kernel_rfl) (by kernel_rfl) (fun _ _ _ h => h) (yieldsIf_cell (by rfl) rfl rfl (fun wh hS => hS.1.int k 2 hk8 (by decide) (by decide)) isInt3) hHeld ?_
            show wpAnyH _ _ _ _ _ _ _ (Act.put _ (some 28) _) _
            simp only [Act.put, List.setIfInBounds_toArray, List.set_cons_zero, List.set_cons_succ]
            refine wpAnyH_take (i := 10) (v := .bool true) rfl (by kernel_rfl) (by kernel_rfl) (by kernel_rfl) (fun _ _ _ h => h) (yb (b := ((t k).f 2) != 0) (by rfl) (fun _ _ => rfl) b2) hHeld ?_
            show wpAnyH _ _ _ _ _ _ _ (Act.put _ (some 29) _) _
            simp only [Act.put, List.setIfInBounds_toArray, List.set_cons_zero, List.set_cons_succ]
            refine wpAnyH_take (i := 11) (v := .bool true) rfl (by kernel_rfl) (by kernel_rfl) (by kernel_rfl) (fun _ _ _ h => h) (Or.inl ⟨by rfl, fun _ _ => rfl⟩) hHeld ?_
            show wpAnyH _ _ _ _ _ _ _ (Act.put _ (some 30) _) _
            simp only [Act.put, List.setIfInBounds_toArray, List.set_cons_zero, List.set_cons_succ]
            refine wpAnyH_take (i := 12) (v := .bool true) rfl (by kernel_rfl) (by kernel_rfl) (by kernel_rfl) (fun _ _ _ h => h) (Or.inl ⟨by rfl, fun _ _ => rfl⟩) hHeld ?_
            show wpAnyH _ _ _ _ _ _ _ (Act.put _ (some 31) _) _
            simp only [Act.put, List.setIfInBounds_toArray, List.set_cons_zero, List.set_cons_succ]
            refine wpAnyH_take (i := 13) (v := .int .i64 (i : Int)) rfl (by kernel_rfl) (by kernel_rfl) (by kernel_rfl) (fun _ _ _ h => h) (Or.inl ⟨by rfl, fun _ _ => rfl⟩) hHeld ?_
            show wpAnyH _ _ _ _ _ _ _ (Act.put _ (some 32) _) _
            simp only [Act.put, List.setIfInBounds_toArray, List.set_cons_zero, List.set_cons_succ]
            refine wpAnyH_take (i := 14) (v := .pointer (some ⟨w.heap.size, i * 29, none⟩)) rfl (by kernel_rfl) (by kernel_rfl) (by kernel_rfl) (fun _ _ _ h => h) (Or.inl ⟨by rfl, fun wh hS => by go_simp⟩) hHeld ?_
            show wpAnyH _ _ _ _ _ _ _ (Act.put _ (some 33) _) _
            simp only [Act.put, List.setIfInBounds_toArray, List.set_cons_zero, List.set_cons_succ]
            refine wpAnyH_take (i := 15) (v := .pointer (some ⟨w.heap.size, i * 29, none⟩)) rfl (by kernel_rfl) (by kernel_rfl) (by kernel_rfl) (fun _ _ _ h => h) (Or.inl ⟨by rfl, fun _ _ => rfl⟩) hHeld ?_
            show wpAnyH _ _ _ _ _ _ _ (Act.put _ (some 34) _) _
            simp only [Act.put, List.setIfInBounds_toArray, List.set_cons_zero, List.set_cons_succ]
            refine wpAnyH_take (i := 16) (v := .int .i64 ((t i).f 0)) rfl (by kernel_rfl) (by kernel_rfl) (by kernel_rfl) (fun _ _ _ h => h) (yieldsIf_cell (by rfl) rfl rfl (fun wh hS => hS.1.int0 i hi8) isInt3) hHeld ?_
            show wpAnyH _ _ _ _ _ _ _ (Act.put _ (some 35) _) _
            simp only [Act.put, List.setIfInBounds_toArray, List.set_cons_zero, List.set_cons_succ]
            refine wpAnyH_take (i := 17) (v := .int .i64 (k : Int)) rfl (by kernel_rfl) (by kernel_rfl) (by kernel_rfl) (fun _ _ _ h => h) (Or.inl ⟨by rfl, fun _ _ => rfl⟩) hHeld ?_
            show wpAnyH _ _ _ _ _ _ _ (Act.put _ (some 36) _) _
            simp only [Act.put, List.setIfInBounds_toArray, List.set_cons_zero, List.set_cons_succ]
            refine wpAnyH_take (i := 18) (v := .pointer (some ⟨w.heap.size, k * 29, none⟩)) rfl (by kernel_rfl) (by kernel_rfl) (by kernel_rfl) (fun _ _ _ h => h) (Or.inl ⟨by rfl, fun wh hS => by go_simp⟩) hHeld ?_
            show wpAnyH _ _ _ _ _ _ _ (Act.put _ (some 37) _) _
            simp only [Act.put, List.setIfInBounds_toArray, List.set_cons_zero, List.set_cons_succ]
            refine wpAnyH_take (i := 19) (v := .pointer (some ⟨w.heap.size, k * 29, none⟩)) rfl (by kernel_rfl) (by kernel_rfl) (by kernel_rfl) (fun _ _ _ h => h) (Or.inl ⟨by rfl, fun _ _ => rfl⟩) hHeld ?_
            show wpAnyH _ _ _ _ _ _ _ (Act.put _ (some 38) _) _
            simp only [Act.put, List.setIfInBounds_toArray, List.set_cons_zero, List.set_cons_succ]
            refine wpAnyH_take (i := 20) (v := .int .i64 ((t k).f 0)) rfl (by kernel_rfl) (by kernel_rfl) (by kernel_rfl) (fun _ _ _ h => h) (yieldsIf_cell (by rfl) rfl rfl (fun wh hS => hS.1.int0 k hk8) isInt3) hHeld ?_
            show wpAnyH _ _ _ _ _ _ _ (Act.put _ (some 39) _) _
            simp only [Act.put, List.setIfInBounds_toArray, List.set_cons_zero, List.set_cons_succ]
            refine wpAnyH_take (i := 21) (v := .bool true) rfl (by kernel_rfl) (by kernel_rfl) (by kernel_rfl) (fun _ _ _ h => h) (yb (b := ((t i).f 0) == ((t k).f 0)) (by rfl) (fun _ _ => rfl) b3) hHeld ?_
            show wpAnyH _ _ _ _ _ _ _ (Act.put _ (some 40) _) _
            simp only [Act.put, List.setIfInBounds_toArray, List.set_cons_zero, List.set_cons_succ]
            refine wpAnyH_take (i := 22) (v := .bool true) rfl (by kernel_rfl) (by kernel_rfl) (by kernel_rfl) (fun _ _ _ h => h) (Or.inl ⟨by rfl, fun _ _ => rfl⟩) hHeld ?_
            show wpAnyH _ _ _ _ _ _ _ (Act.put _ (some 41) _) _
            simp only [Act.put, List.setIfInBounds_toArray, List.set_cons_zero, List.set_cons_succ]
            refine wpAnyH_done (by kernel_rfl) ?_ _
            have HB4 := hidI hHeld.2
            clear hHeld
            go_wp2
            go_ret
            exact ⟨ret_bool HF.out.symm, HB4.out⟩
        · obtain rfl : k = i := by omega
          have HD : Hid (allB (rrightQ t) (k + 1) = true) := by rw [Hid, HS.out, HQ.out, hv2.out, hv.out]; rfl
          have hki2 : decide ((k : Int) < k) = false := by simp
          clear hki hv hv2
          go_wp2
          go_roundw
          case measure => simp [intOf]; omega
          case rel => exact ⟨k + 1, by omega, by go_num, hblk2, HB2.out, HD⟩
    · obtain rfl : i = 8 := by omega
      go_wp2
      go_ret
      exact ⟨ret_bool hv.out.symm, HB.out⟩
end Go.Proofs.Ytnnknhcdnklalaa.A
