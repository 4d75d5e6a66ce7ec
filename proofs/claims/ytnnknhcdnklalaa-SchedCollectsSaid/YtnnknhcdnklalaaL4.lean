/- The law SchedCollects: its call returns true. No condition. -/
import Derived.Test.YtnnknhcdnklalaaCollP
namespace Go.Proofs.Ytnnknhcdnklalaa.A
open Go Go.RowKit
set_option linter.unusedSimpArgs false
set_option linter.unusedVariables false
section
variable {ops : Array Oper} {o : Oper} {rest : List Oper} {a : Act} {Q : Exit → Act → World → Prop} {w : World}
theorem g_makeMap (t : TypeId) {P : Program} (h : wpList P ops Q (o :: rest) a w) (ho : o.op = .makeMap t none) : wpList P ops Q (o :: rest) a w := h
theorem g_mlen {P : Program} {x : Operand} (h : wpList P ops Q (o :: rest) a w) (ho : o.op = .call { callee := .builtin .len, args := #[x], argTypes := #[40] }) : wpList P ops Q (o :: rest) a w := h
theorem g_mdel {P : Program} {x y : Operand} (h : wpList P ops Q (o :: rest) a w) (ho : o.op = .call { callee := .builtin .delete, args := #[x, y], argTypes := #[40, 3] }) : wpList P ops Q (o :: rest) a w := h
theorem st_mlen {b : Nat} {L : List (Int × Value)} {x : Operand} (hw : Region.wanted o (yielded ops a.tmps) = true) (ho : o.op = .call { callee := .builtin .len, args := #[x], argTypes := #[40] }) (hx : a.eval x = .map (some b)) (hb : MapI w b L)
    (h : wpList Try.prog ops Q rest (a.put o.dst (.int .i64 (L.length : Int))) w) : wpList Try.prog ops Q (o :: rest) a w :=
  st_val hw (by simp [execOp, ho, resolve, invoke, builtin, hx, run_mlen Try.underlying40 hb, Result.andThen]) h
theorem st_mdel {b : Nat} {k : Int} {L : List (Int × Value)} {x y : Operand} (hw : Region.wanted o (yielded ops a.tmps) = true) (ho : o.op = .call { callee := .builtin .delete, args := #[x, y], argTypes := #[40, 3] }) (hx : a.eval x = .map (some b)) (hy : a.eval y = .int .i64 k) (hb : MapI w b L)
    (h : ∀ w', MapI w' b (delI L k) → Upd w b w' → wpList Try.prog ops Q rest (a.put o.dst (.tuple #[])) w') : wpList Try.prog ops Q (o :: rest) a w := by
  obtain ⟨w', h1, h2, h3⟩ := run_del Try.underlying40 Try.underlying3 hb k o.type
  exact st_val hw (by simp [execOp, ho, resolve, invoke, builtin, hx, hy, h1, Result.andThen]) (h w' h2 h3)
end
theorem putI_len (k : Int) (x : Value) : ∀ L, (putI L k x).length ≤ L.length + 1
  | [] => by simp [putI]
  | (a, v) :: r => by
    unfold putI
    split
    · simp
    · have := putI_len k x r; simp only [List.length_cons]; omega
theorem colL_len (t : Nat → Pr) (P : Int) (s : Nat → Int) : ∀ k, (colL t P s k).length ≤ 2 * k
  | 0 => by simp [colL]
  | k + 1 => by
    have ih := colL_len t P s k
    rw [colL_eq]
    split
    · split
      · have := putI_len ((t k).f 0) (.int .i64 ((t k).f 27)) (colL t P s k); omega
      · have := putI_len ((t k).f 0) (.int .i64 ((t k).f 27)) (colL t P s k)
        have := putI_len ((t k).f 0) (.int .i64 (Go.bits .and .i64 (s k) 255)) (putI (colL t P s k) ((t k).f 0) (.int .i64 ((t k).f 27))); omega
    · omega
theorem exit_nat (t : Nat → Pr) (k : Nat) (s : Int) (w : World) : Calls Try.prog 14 #[.agg (tcs t), .int .i64 (k : Int), .int .i64 s] w fun e w' => e = .returned (.agg (tcs (exitT t k s))) ∧ Below w.heap.size w w' := exit_v t k s w
theorem reap_e {t T' : Nat → Pr} {n a b c : Int} (h : reapS t n = (T', a, b, c)) (w : World) : Calls Try.prog 16 #[.agg (tcs t), .int .i64 n] w fun e w' => e = .returned (.tuple #[.agg (tcs T'), .int .i64 a, .int .i64 b, .int .i64 c]) ∧ Below w.heap.size w w' := by
  have := reap_v t n w; rw [h] at this; exact this
set_option maxHeartbeats 16000000 in
set_option maxRecDepth 100000 in
theorem lawCollects_v (t : Nat → Pr) (P st : Int) (w : World) : Calls Try.prog 7 #[.agg (tcs t), .int .i64 P, .int .i64 st] w fun e w' => e = .returned (.bool true) ∧ Below w.heap.size w w' := by
  have hk0 := Blk.new w t
  have HB0 := hidI (Below.alloc (Below.refl w.heap.size w) (Nat.le_refl _) (.cells (tcs t) 29))
  have hrt := fun W => right_v t W
  cases hR : rightB t
  · simp only [hR] at hrt
    clear hR
    go_enter Try.func7, Try.ntmps7
    go_wp2_with (first
      | ((with_reducible refine g_load 29 ?_ rfl); have _t := HB0; refine st_load29 (x := .tmp 3) (by rfl) rfl rfl hk0 ?_)
      | (go_at_call 11; refine (hrt _).mono ?_; rintro e w1 ⟨rfl, hb⟩; have HB1 := hidI (HB0.out.trans (hb.mono HB0.out.size)); clear HB0 hb hrt)
      | (go_at_call 13; refine (alive_v _).mono ?_; rintro e w2 ⟨rfl, hb⟩; have HB2 := hidI (HB1.out.trans (hb.mono HB1.out.size)); clear HB1 hb))
    go_ret
    exact ⟨rfl, HB2.out⟩
  have hRP := hidI ((right_iff t).1 hR)
  simp only [hR] at hrt
  clear hR
  by_cases hP : P < 1
  · have hPd : decide (P < 1) = true := by simpa using hP
    clear hP
    go_enter Try.func7, Try.ntmps7
    go_wp2_with (first
      | ((with_reducible refine g_load 29 ?_ rfl); have _t := HB0; refine st_load29 (x := .tmp 3) (by rfl) rfl rfl hk0 ?_)
      | (go_at_call 11; refine (hrt _).mono ?_; rintro e w1 ⟨rfl, hb⟩; have HB1 := hidI (HB0.out.trans (hb.mono HB0.out.size)); clear HB0 hb hrt)
      | (go_at_call 13; refine (alive_v _).mono ?_; rintro e w2 ⟨rfl, hb⟩; have HB2 := hidI (HB1.out.trans (hb.mono HB1.out.size)); clear HB1 hb))
    go_ret
    exact ⟨rfl, HB2.out⟩
  have hP1 : 1 ≤ P := by omega
  have hPd : decide (P < 1) = false := by simpa using hP
  have HP := hidI hP1
  clear hP
  have hfn := fun W => find_v t P W
  cases hF : decide (0 ≤ scan (fun i => (t i).f 2 != 0 && (t i).f 0 == P) 0 8)
  · have hneg : ¬ 0 ≤ scan (fun i => (t i).f 2 != 0 && (t i).f 0 == P) 0 8 := by simpa using hF
    have hm1 := scan_neg _ _ _ hneg
    simp only [hm1] at hfn
    clear hm1 hneg hF
    go_enter Try.func7, Try.ntmps7
    go_wp2_with (first
      | ((with_reducible refine g_load 29 ?_ rfl); have _t := HB0; refine st_load29 (x := .tmp 3) (by rfl) rfl rfl hk0 ?_)
      | (go_at_call 11; refine (hrt _).mono ?_; rintro e w1 ⟨rfl, hb⟩; have hk1 := hk0.below hb hk0.lt; have HB1 := hidI (HB0.out.trans (hb.mono HB0.out.size)); clear HB0 hb hk0)
      | ((with_reducible refine g_load 29 ?_ rfl); have _t := HB1; refine st_load29 (x := .tmp 3) (by rfl) rfl rfl hk1 ?_)
      | (go_at_call 19; have _t := HB1; refine (hfn _).mono ?_; rintro e w2 ⟨rfl, hb⟩; have hk2 := hk1.below hb hk1.lt; have HB2 := hidI (HB1.out.trans (hb.mono HB1.out.size)); clear HB1 hb hk1)
      | (go_at_call 13; refine (alive_v _).mono ?_; rintro e w4 ⟨rfl, hb⟩; have HB4 := hidI (HB2.out.trans (hb.mono HB2.out.size)); clear HB2 hb))
    go_ret
    exact ⟨rfl, HB4.out⟩
  have hpos : 0 ≤ scan (fun i => (t i).f 2 != 0 && (t i).f 0 == P) 0 8 := by simpa using hF
  obtain ⟨i0, hi8, hsc, hip⟩ := scan_ge _ _ _ hpos
  simp only [hsc] at hfn
  simp only [Bool.and_eq_true, bne_iff_ne, ne_eq, beq_iff_eq] at hip
  have HIP := hidI hip
  clear hip hsc hpos hF
  have hi0 : (0 : Int) ≤ i0 := by omega
  have hi : (i0 : Int) < 8 := by omega
  have hand : Go.bits .and .i64 (i0 : Int) 7 = (i0 : Int) := by rw [Bits.and7]; omega
  cases hpp : ((t i0).f 1 == P)
  rotate_left
  · go_enter Try.func7, Try.ntmps7
    go_wp2_with (first
      | ((with_reducible refine g_load 29 ?_ rfl); have _t := HB0; refine st_load29 (x := .tmp 3) (by rfl) rfl rfl hk0 ?_)
      | (go_at_call 11; refine (hrt _).mono ?_; rintro e w1 ⟨rfl, hb⟩; have hk1 := hk0.below hb hk0.lt; have HB1 := hidI (HB0.out.trans (hb.mono HB0.out.size)); clear HB0 hb hk0)
      | ((with_reducible refine g_load 29 ?_ rfl); have _t := HB1; refine st_load29 (x := .tmp 3) (by rfl) rfl rfl hk1 ?_)
      | (go_at_call 19; have _t := HB1; refine (hfn _).mono ?_; rintro e w2 ⟨rfl, hb⟩; have hk2 := hk1.below hb hk1.lt; have HB2 := hidI (HB1.out.trans (hb.mono HB1.out.size)); clear HB1 hb hk1)
      | ((with_reducible refine g_load 29 ?_ rfl); have _t := HB2; refine st_load29 (x := .tmp 3) (by rfl) rfl rfl hk2 ?_)
      | (go_at_call 19; have _t := HB2; refine (hfn _).mono ?_; rintro e w3 ⟨rfl, hb⟩; have hk3 := hk2.below hb hk2.lt; have c1 := hk3.int i0 1 hi8 (by decide) (by decide); have HB3 := hidI (HB2.out.trans (hb.mono HB2.out.size)); clear HB2 hb hk2)
      | (go_at_call 13; refine (alive_v _).mono ?_; rintro e w4 ⟨rfl, hb⟩; have HB4 := hidI (HB3.out.trans (hb.mono HB3.out.size)); clear HB3 hb))
    go_ret
    exact ⟨rfl, HB4.out⟩
  have hno : Hid (∀ m, m < 8 → (t m).f 2 ≠ 0 → (t m).f 1 = P → (t m).f 0 ≠ P) := fun m hm h0 h1 he => by
    have e := uniq hRP.out hm hi8 h0 HIP.out.1 (by rw [he, HIP.out.2])
    subst e; simp [h1] at hpp
  clear HIP
  go_enter Try.func7, Try.ntmps7
  go_wp2_with (first
    | ((with_reducible refine g_load 29 ?_ rfl); have _t := HB0; refine st_load29 (x := .tmp 3) (by rfl) rfl rfl hk0 ?_)
    | (go_at_call 11; refine (hrt _).mono ?_; rintro e w1 ⟨rfl, hb⟩; have hk1 := hk0.below hb hk0.lt; have HB1 := hidI (HB0.out.trans (hb.mono HB0.out.size)); clear HB0 hb hk0)
    | ((with_reducible refine g_load 29 ?_ rfl); have _t := HB1; refine st_load29 (x := .tmp 3) (by rfl) rfl rfl hk1 ?_)
    | (go_at_call 19; have _t := HB1; refine (hfn _).mono ?_; rintro e w2 ⟨rfl, hb⟩; have hk2 := hk1.below hb hk1.lt; have HB2 := hidI (HB1.out.trans (hb.mono HB1.out.size)); clear HB1 hb hk1)
    | ((with_reducible refine g_load 29 ?_ rfl); have _t := HB2; refine st_load29 (x := .tmp 3) (by rfl) rfl rfl hk2 ?_)
    | ((with_reducible refine g_load 29 ?_ rfl); have _t := HB3; refine st_load29 (x := .tmp 3) (by rfl) rfl rfl hk3 ?_)
    | (go_at_call 19; have _t := HB2; refine (hfn _).mono ?_; rintro e w3 ⟨rfl, hb⟩; have hk3 := hk2.below hb hk2.lt; have c1 := hk3.int i0 1 hi8 (by decide) (by decide); have HB3 := hidI (HB2.out.trans (hb.mono HB2.out.size)); clear HB2 hb hk2)
    | ((with_reducible refine g_makeMap 40 ?_ rfl); refine st_makeMap (by rfl) rfl ?_; have hk4 := hk3.alloc (.map #[] 0); have hmm := MapI.new w3; have hl3 := hk3.lt; have hs3 := HB3.out.size; have HB4 := hidI (HB3.out.alloc HB3.out.size (.map #[] 0)); clear HB3 hk3 c1; try go_simp)
    | ((with_reducible refine g_load 29 ?_ rfl); have _t := HB4; refine st_load29 (x := .tmp 3) (by rfl) rfl rfl hk4 ?_))
  clear hfn hpp hand hrt
  generalize w3.heap.size = mb at *
  generalize w3.alloc (.map #[] 0) = W1 at *
  obtain ⟨s, hs⟩ : ∃ s : Nat → Int, s = fun (k : Nat) => IntKind.i64.wrap (st + (k : Int)) := ⟨_, rfl⟩
  have HS := hidI (fun k : Nat => show IntKind.i64.wrap (st + (k : Int)) = s k by rw [hs])
  clear hs
  go_loopw [46] (fun x wr => ∃ k : Nat, k ≤ 8 ∧ x = .int .i64 k ∧ Blk wr w.heap.size (colT t P s k) ∧ MapI wr mb (colL t P s k) ∧ Below w.heap.size w wr) (fun x _ => 8 - (intOf x).toNat)
  case atStart => exact ⟨0, by omega, rfl, hk4, hmm, HB4.out⟩
  case round =>
    clear hk4 hmm HB4
    obtain ⟨k, hk, rfl, hblk, hm, hbel⟩ := hrel
    have HB := hidI hbel; clear hbel
    have hlb := hblk.lt
    have hlm := hm.lt
    by_cases hk8 : k < 8
    · have hlt : (k : Int) < 8 := by omega
      have hlo : (0 : Int) ≤ k := by omega
      have hTq := colT_eq t P s k
      have hLq := colL_eq t P s k
      cases h0 : ((t k).f 2 == 0)
      rotate_left
      · have hnc : ¬ isC t P k := fun h => h.1 (by simpa using h0)
        rw [if_neg (fun h => hnc h.1)] at hTq
        rw [if_neg hnc] at hLq
        have HT := hidI hTq
        have HL := hidI hLq
        clear hTq hLq hnc
        go_wp2_with (first
          | ((with_reducible refine g_index 29 ?_ rfl); refine st_index29 (by rfl) rfl rfl rfl hk8 ?_)
          | ((with_reducible refine g_alloc 28 ?_ rfl); refine st_alloc28 (by rfl) rfl ?_; have hq1 := PBlk.new wr zp; have hblk1 := hblk.alloc (.cells (pcs zp) 28); have hm1 := hm.alloc (.cells (pcs zp) 28); have HB1 := hidI (HB.out.alloc HB.out.size (.cells (pcs zp) 28)); clear hblk hm HB)
          | ((with_reducible refine g_store 28 ?_ rfl); refine st_pstore28 (by rfl) rfl rfl rfl hq1 ?_; intro w2 hq2 hu2; have hblk2 := hu2.blk hblk1 (by omega); have hm2 := hm1.upd hu2 (by omega); have HB2 := hidI (HB1.out.trans (hu2.below (by omega))); have d2 := hq2.int 2 (by decide) (by decide); have d1 := hq2.int 1 (by decide) (by decide); have d0 := hq2.int 0 (by decide) (by decide); have d27 := hq2.int 27 (by decide) (by decide); clear hblk1 hm1 HB1 hq1 hu2))
        go_roundw
        case measure => simp [intOf]; omega
        case rel => exact ⟨k + 1, by omega, by go_num, by rw [HT.out]; exact hblk2, by rw [HL.out]; exact hm2, HB2.out⟩
      cases h1 : ((t k).f 1 != P)
      rotate_left
      · have hnc : ¬ isC t P k := fun h => by have g : ¬ (t k).f 1 = P := (by simpa using h1); exact g h.2.1
        rw [if_neg (fun h => hnc h.1)] at hTq
        rw [if_neg hnc] at hLq
        have HT := hidI hTq
        have HL := hidI hLq
        clear hTq hLq hnc
        go_wp2_with (first
          | ((with_reducible refine g_index 29 ?_ rfl); refine st_index29 (by rfl) rfl rfl rfl hk8 ?_)
          | ((with_reducible refine g_alloc 28 ?_ rfl); refine st_alloc28 (by rfl) rfl ?_; have hq1 := PBlk.new wr zp; have hblk1 := hblk.alloc (.cells (pcs zp) 28); have hm1 := hm.alloc (.cells (pcs zp) 28); have HB1 := hidI (HB.out.alloc HB.out.size (.cells (pcs zp) 28)); clear hblk hm HB)
          | ((with_reducible refine g_store 28 ?_ rfl); refine st_pstore28 (by rfl) rfl rfl rfl hq1 ?_; intro w2 hq2 hu2; have hblk2 := hu2.blk hblk1 (by omega); have hm2 := hm1.upd hu2 (by omega); have HB2 := hidI (HB1.out.trans (hu2.below (by omega))); have d2 := hq2.int 2 (by decide) (by decide); have d1 := hq2.int 1 (by decide) (by decide); have d0 := hq2.int 0 (by decide) (by decide); have d27 := hq2.int 27 (by decide) (by decide); clear hblk1 hm1 HB1 hq1 hu2))
        go_roundw
        case measure => simp [intOf]; omega
        case rel => exact ⟨k + 1, by omega, by go_num, by rw [HT.out]; exact hblk2, by rw [HL.out]; exact hm2, HB2.out⟩
      cases h2 : ((t k).f 0 == P)
      rotate_left
      · have hnc : ¬ isC t P k := fun h => h.2.2 (by simpa using h2)
        rw [if_neg (fun h => hnc h.1)] at hTq
        rw [if_neg hnc] at hLq
        have HT := hidI hTq
        have HL := hidI hLq
        clear hTq hLq hnc
        go_wp2_with (first
          | ((with_reducible refine g_index 29 ?_ rfl); refine st_index29 (by rfl) rfl rfl rfl hk8 ?_)
          | ((with_reducible refine g_alloc 28 ?_ rfl); refine st_alloc28 (by rfl) rfl ?_; have hq1 := PBlk.new wr zp; have hblk1 := hblk.alloc (.cells (pcs zp) 28); have hm1 := hm.alloc (.cells (pcs zp) 28); have HB1 := hidI (HB.out.alloc HB.out.size (.cells (pcs zp) 28)); clear hblk hm HB)
          | ((with_reducible refine g_store 28 ?_ rfl); refine st_pstore28 (by rfl) rfl rfl rfl hq1 ?_; intro w2 hq2 hu2; have hblk2 := hu2.blk hblk1 (by omega); have hm2 := hm1.upd hu2 (by omega); have HB2 := hidI (HB1.out.trans (hu2.below (by omega))); have d2 := hq2.int 2 (by decide) (by decide); have d1 := hq2.int 1 (by decide) (by decide); have d0 := hq2.int 0 (by decide) (by decide); have d27 := hq2.int 27 (by decide) (by decide); clear hblk1 hm1 HB1 hq1 hu2))
        go_roundw
        case measure => simp [intOf]; omega
        case rel => exact ⟨k + 1, by omega, by go_num, by rw [HT.out]; exact hblk2, by rw [HL.out]; exact hm2, HB2.out⟩
      have hc : isC t P k := ⟨by simpa using h0, by simpa using h1, by simpa using h2⟩
      rw [if_pos hc] at hLq
      by_cases h3 : (t k).f 2 = 3
      · rw [if_pos h3] at hLq
        rw [if_neg (fun h => h.2 h3)] at hTq
        have HT := hidI hTq
        have HL := hidI hLq
        have H3 : Hid ((t k).f 2 = 3) := h3
        have h3b : ((t k).f 2 != 3) = false := by simpa using h3
        clear hTq hLq hc h3
        go_wp2_with (first
          | ((with_reducible refine g_index 29 ?_ rfl); refine st_index29 (by rfl) rfl rfl rfl hk8 ?_)
          | ((with_reducible refine g_alloc 28 ?_ rfl); refine st_alloc28 (by rfl) rfl ?_; have hq1 := PBlk.new wr zp; have hblk1 := hblk.alloc (.cells (pcs zp) 28); have hm1 := hm.alloc (.cells (pcs zp) 28); have HB1 := hidI (HB.out.alloc HB.out.size (.cells (pcs zp) 28)); clear hblk hm HB)
          | ((with_reducible refine g_store 28 ?_ rfl); refine st_pstore28 (by rfl) rfl rfl rfl hq1 ?_; intro w2 hq2 hu2; have hblk2 := hu2.blk hblk1 (by omega); have hm2 := hm1.upd hu2 (by omega); have HB2 := hidI (HB1.out.trans (hu2.below (by omega))); have d2 := hq2.int 2 (by decide) (by decide); have d1 := hq2.int 1 (by decide) (by decide); have d0 := hq2.int 0 (by decide) (by decide); have d27 := hq2.int 27 (by decide) (by decide); clear hblk1 hm1 HB1 hq1 hu2)
          | ((with_reducible refine g_put 40 ?_ rfl); have _t := HB2; refine st_put (by rfl) rfl Try.underlying40 rfl rfl rfl hm2 ?_; intro w4 hm4 hu4; have hblk4 := hu4.blk hblk2 (by omega); have d2' := hu4.pblk hq2 (by omega); have g2 := d2'.int 2 (by decide) (by decide); have HB4 := hidI (HB2.out.trans (hu4.below (by omega))); clear hm2 hblk2 HB2 hu4 hq2 d2 d0 d1 d27))
        go_roundw
        case measure => simp [intOf]; omega
        case rel => exact ⟨k + 1, by omega, by go_num, by rw [HT.out]; exact hblk4, by rw [HL.out]; exact hm4, HB4.out⟩
      · rw [if_neg h3] at hLq
        rw [if_pos ⟨hc, h3⟩] at hTq
        have HT := hidI hTq
        have HL := hidI hLq
        have h3b : ((t k).f 2 != 3) = true := by simpa using h3
        clear hTq hLq hc h3
        have hwr := HS.out k
        have hex := fun W => exit_nat (colT t P s k) k (s k) W
        go_wp2_with (first
          | ((with_reducible refine g_index 29 ?_ rfl); refine st_index29 (by rfl) rfl rfl rfl hk8 ?_)
          | ((with_reducible refine g_alloc 28 ?_ rfl); refine st_alloc28 (by rfl) rfl ?_; have hq1 := PBlk.new wr zp; have hblk1 := hblk.alloc (.cells (pcs zp) 28); have hm1 := hm.alloc (.cells (pcs zp) 28); have HB1 := hidI (HB.out.alloc HB.out.size (.cells (pcs zp) 28)); clear hblk hm HB)
          | ((with_reducible refine g_store 28 ?_ rfl); refine st_pstore28 (by rfl) rfl rfl rfl hq1 ?_; intro w2 hq2 hu2; have hblk2 := hu2.blk hblk1 (by omega); have hm2 := hm1.upd hu2 (by omega); have HB2 := hidI (HB1.out.trans (hu2.below (by omega))); have d2 := hq2.int 2 (by decide) (by decide); have d1 := hq2.int 1 (by decide) (by decide); have d0 := hq2.int 0 (by decide) (by decide); have d27 := hq2.int 27 (by decide) (by decide); clear hblk1 hm1 HB1 hq1 hu2)
          | ((with_reducible refine g_put 40 ?_ rfl); have _t := HB2; refine st_put (by rfl) rfl Try.underlying40 rfl rfl rfl hm2 ?_; intro w4 hm4 hu4; have hblk4 := hu4.blk hblk2 (by omega); have hq4 := hu4.pblk hq2 (by omega); have g2 := hq4.int 2 (by decide) (by decide); have g0 := hq4.int 0 (by decide) (by decide); have HB4 := hidI (HB2.out.trans (hu4.below (by omega))); clear hm2 hblk2 HB2 hu4 hq2 d2 d0 d1 d27 hq4)
          | ((with_reducible refine g_put 40 ?_ rfl); have _t := HB4; refine st_put (by rfl) rfl Try.underlying40 rfl rfl rfl hm4 ?_; intro w5 hm5 hu5; have hblk5 := hu5.blk hblk4 (by omega); have HB5 := hidI (HB4.out.trans (hu5.below (by omega))); clear hm4 hblk4 HB4 hu5 g2 g0)
          | ((with_reducible refine g_load 29 ?_ rfl); refine st_load29 (x := .tmp 3) (by rfl) rfl rfl hblk5 ?_)
          | (go_at_call 14; refine (hex _).mono ?_; rintro e w6 ⟨rfl, hb⟩; have hblk6 := hblk5.below hb hblk5.lt; have hm6 := hm5.below hb hm5.lt; have HB6 := hidI (HB5.out.trans (hb.mono HB5.out.size)); clear hm5 hblk5 HB5 hb hex)
          | ((with_reducible refine g_store 29 ?_ rfl); refine st_store29 (x := .tmp 3) (by rfl) rfl rfl rfl hblk6 ?_; intro w7 hblk7 hu7; have hm7 := hm6.upd hu7 (by omega); have HB7 := hidI (HB6.out.trans (hu7.below (by omega))); clear hm6 hblk6 HB6 hu7))
        go_roundw
        case measure => simp [intOf]; omega
        case rel => exact ⟨k + 1, by omega, by go_num, by rw [HT.out]; exact hblk7, by rw [HL.out]; exact hm7, HB7.out⟩
    · obtain rfl : k = 8 := by omega
      rw [show ((8 : Nat) : Int) = 8 from rfl]
      have hcol := hidI (col_all (s := s) hRP.out HP.out hno.out 8 (Nat.le_refl _))
      have hmid := hidI (mid_start (P := P) (s := s) hRP.out (colT t P s 8))
      have hn16 : (colL t P s 8).length ≤ 16 := colL_len t P s 8
      generalize colT t P s 8 = T at *
      generalize colL t P s 8 = L at *
      obtain ⟨n, hn⟩ : ∃ n, n = L.length := ⟨_, rfl⟩
      rw [← hn] at hn16
      have HN := hidI hn
      clear hn
      go_wp2_with (first
        | ((with_reducible refine g_mlen ?_ rfl); refine st_mlen (by rfl) rfl rfl hm ?_; rw [← HN.out]))
      go_loopw [89] (fun x wr => ∃ (j : Nat) (T' : Nat → Pr) (L' : List (Int × Value)), j ≤ n ∧ x = .int .i64 j ∧ Hid (Mid t P s T T' L') ∧ Hid (L'.length + j = n) ∧ Blk wr w.heap.size T' ∧ MapI wr mb L' ∧ Below w.heap.size w wr) (fun x _ => n - (intOf x).toNat)
      case atStart => exact ⟨0, T, L, by omega, rfl, hmid, HN.out.symm, hblk, hm, HB.out⟩
      case round =>
        clear hmid HN hblk hm HB hlb hlm
        obtain ⟨j, T', L', hj, rfl, hmid, hlen, hblk, hm, hbel⟩ := hrel
        have HB := hidI hbel; clear hbel
        have hlb := hblk.lt
        have hlm := hm.lt
        by_cases hjn : j < n
        · have hji : (j : Int) < n := by omega
          have hj0 : (0 : Int) ≤ j := by omega
          obtain ⟨z, hz8, hre, hget, hfi, hmid2, hl2⟩ := mid_step hRP.out HP.out hcol.out hmid.out (by have := hlen.out; omega)
          have hrp := fun W => reap_e hre W
          have hf2 : ∀ W, Calls Try.prog 19 #[.agg (tcs (updT T' z zp)), .int .i64 ((t z).f 0)] W fun e w' => e = .returned (.int .i64 (-1)) ∧ Below W.heap.size W w' := fun W => by
            have := find_v (updT T' z zp) ((t z).f 0) W; rw [hfi] at this; exact this
          have HM := hidI hmid2
          have HL2 : Hid ((delI L' ((t z).f 0)).length + (j + 1) = n) := by have := hlen.out; show (delI L' ((t z).f 0)).length + (j + 1) = n; omega
          have hbn : ((stat t s z) != (stat t s z)) = false := by simp
          have HG := hidI hget
          clear hre hget hfi hmid2 hl2 hmid hlen
          generalize updT T' z zp = T2 at *
          generalize stat t s z = sz at *
          generalize (t z).f 0 = pz at *
          go_wp2_with (first
            | ((with_reducible refine g_load 29 ?_ rfl); have _t := HB; refine st_load29 (x := .tmp 3) (by rfl) rfl rfl hblk ?_)
            | (go_at_call 16; refine (hrp _).mono ?_; rintro e w2 ⟨rfl, hb⟩; have hblk2 := hblk.below hb hblk.lt; have hm2 := hm.below hb hm.lt; have HB2 := hidI (HB.out.trans (hb.mono HB.out.size)); clear hblk hm HB hb hrp)
            | ((with_reducible refine g_store 29 ?_ rfl); refine st_store29 (x := .tmp 3) (by rfl) rfl rfl rfl hblk2 ?_; intro w3 hblk3 hu3; have hm3 := hm2.upd hu3 (by omega); have HB3 := hidI (HB2.out.trans (hu3.below (by omega))); clear hm2 hblk2 HB2 hu3)
            | ((with_reducible refine g_lookup 40 ?_ rfl); refine st_look40 (by rfl) rfl rfl rfl hm3 ?_; rw [HG.out]; simp only [Option.getD_some, Option.isSome_some])
            | ((with_reducible refine g_load 29 ?_ rfl); have _t := HB3; refine st_load29 (x := .tmp 3) (by rfl) rfl rfl hblk3 ?_)
            | (go_at_call 19; refine (hf2 _).mono ?_; rintro e w4 ⟨rfl, hb⟩; have hblk4 := hblk3.below hb hblk3.lt; have hm4 := hm3.below hb hm3.lt; have HB4 := hidI (HB3.out.trans (hb.mono HB3.out.size)); clear hblk3 hm3 HB3 hb hf2)
            | ((with_reducible refine g_mdel ?_ rfl); refine st_mdel (by rfl) rfl rfl rfl hm4 ?_; intro w5 hm5 hu5; have hblk5 := hu5.blk hblk4 (by omega); have HB5 := hidI (HB4.out.trans (hu5.below (by omega))); clear hm4 hblk4 HB4 hu5))
          go_roundw
          case measure => simp [intOf]; omega
          case rel => exact ⟨j + 1, T2, delI L' pz, by omega, by go_num, HM, HL2, hblk5, hm5, HB5.out⟩
        · obtain rfl : j = n := by omega
          have hji : decide ((j : Int) < j) = false := by simp
          have hl0 : L'.length = 0 := by have := hlen.out; omega
          have hrp := fun W => reap_e (mid_end HP.out hcol.out hmid.out hl0) W
          clear hjn hmid hlen hcol
          have HL0 := hidI hl0; clear hl0
          go_wp2_with (first
            | ((with_reducible refine g_load 29 ?_ rfl); have _t := HB; refine st_load29 (x := .tmp 3) (by rfl) rfl rfl hblk ?_)
            | (go_at_call 16; refine (hrp _).mono ?_; rintro e w2 ⟨rfl, hb⟩; have hm2 := hm.below hb hm.lt; have HB2 := hidI (HB.out.trans (hb.mono HB.out.size)); clear hblk hm HB hb hrp)
            | ((with_reducible refine g_alloc 29 ?_ rfl); refine st_alloc29 (by rfl) rfl ?_; have hz := Blk.new w2 tz; have hs2 := HB2.out.size; have hm3 := hm2.alloc (.cells (tcs tz) 29); have hlm2 := hm2.lt; have HB3 := hidI (HB2.out.alloc HB2.out.size (.cells (tcs tz) 29)); clear HB2 hm2)
            | ((with_reducible refine g_store 29 ?_ rfl); refine st_store29 (x := .tmp 15) (by rfl) rfl rfl rfl hz ?_; intro w3 hblk3 hu3; have hm4 := hm3.upd hu3 (by omega); have HB4 := hidI (HB3.out.trans (hu3.below (by omega))); clear hm3 HB3 hu3 hz)
            | ((with_reducible refine g_mlen ?_ rfl); refine st_mlen (by rfl) rfl rfl hm4 ?_; rw [HL0.out])
            | (go_at_call 13; refine (alive_v _).mono ?_; rintro e w5 ⟨rfl, hb⟩; have HB5 := hidI (HB4.out.trans (hb.mono HB4.out.size)); clear HB4 hb))
          go_ret
          exact ⟨rfl, HB5.out⟩
end Go.Proofs.Ytnnknhcdnklalaa.A
