/- The law SchedFair: its call returns true. No condition but that the second argument is of the type int. -/
import Derived.Test.YtnnknhcdnklalaaL1
import Derived.Test.YtnnknhcdnklalaaFairP
namespace Go.Proofs.Ytnnknhcdnklalaa.A
open Go Go.RowKit
set_option linter.unusedSimpArgs false
set_option linter.unusedVariables false
def iar (cs : List Nat) : Array Value := (cs.map fun (n : Nat) => Value.int .i64 (n : Int)).toArray
/-- Block b holds eight counts. -/
def IBlk (w : World) (b : Nat) (cs : List Nat) : Prop := cs.length = 8 ∧ w.heap[b]? = some (.cells (iar cs) 26 (0, 0))
theorem iar_get (cs : List Nat) (k : Nat) (h : k < cs.length) : (iar cs)[k]? = some (.int .i64 (cs.getD k 0 : Nat)) := by
  unfold iar
  rw [List.getElem?_toArray, List.getElem?_map, List.getElem?_eq_getElem h, List.getD_eq_getElem?_getD, List.getElem?_eq_getElem h]; rfl
theorem IBlk.int {w : World} {b : Nat} {cs : List Nat} (h : IBlk w b cs) (k : Nat) (hk : k < 8) : w.cell? ⟨b, k, none⟩ = some (.int .i64 (cs.getD k 0 : Nat)) := by
  rw [cell_of_row _ _ _ _ _ _ h.2, iar_get cs k (by rw [h.1]; exact hk)]
theorem IBlk.lt {w : World} {b : Nat} {cs : List Nat} (h : IBlk w b cs) : b < w.heap.size := (Array.getElem?_eq_some_iff.1 h.2).1
theorem IBlk.below {w w' : World} {b B : Nat} {cs : List Nat} (h : IBlk w b cs) (hb : Below B w w') (hlt : b < B) : IBlk w' b cs := ⟨h.1, by rw [hb.block b hlt]; exact h.2⟩
theorem IBlk.drew {w : World} {b : Nat} {cs : List Nat} (h : IBlk w b cs) : IBlk w.drew b cs := h
theorem IBlk.alloc {w : World} {b : Nat} {cs : List Nat} (h : IBlk w b cs) (o : Obj) : IBlk (w.alloc o) b cs :=
  ⟨h.1, by show (w.heap.push o)[b]? = _; rw [Array.getElem?_push, if_neg (by have := h.lt; omega)]; exact h.2⟩
theorem Upd.iblk {w w' : World} {b c : Nat} {cs : List Nat} (h : Upd w b w') (hk : IBlk w c cs) (hne : c ≠ b) : IBlk w' c cs := ⟨hk.1, by rw [h.block c hne]; exact hk.2⟩
theorem PBlk.drew {w : World} {b : Nat} {p : Pr} (h : PBlk w b p) : PBlk w.drew b p := h
theorem iar_set (cs : List Nat) (k n : Nat) : (iar cs).setIfInBounds k (.int .i64 (n : Int)) = iar (cs.set k n) := by
  unfold iar
  rw [List.setIfInBounds_toArray, List.map_set]
/-- Block g begins with the numbers of a list. -/
def NRow (w : World) (g : Nat) (l : List Nat) : Prop := ∀ i, i < l.length → w.cell? ⟨g, i, none⟩ = some (.int .i64 (l.getD i 0 : Nat))
theorem NRow.below {w w' : World} {g B : Nat} {l : List Nat} (h : NRow w g l) (hb : Below B w w') (hg : g < B) : NRow w' g l := fun j hj => by rw [hb.cell hg]; exact h j hj
theorem NRow.alloc {w : World} {g : Nat} {l : List Nat} (h : NRow w g l) (o : Obj) : NRow (w.alloc o) g l := fun j hj => cell_kept (h j hj) o
theorem NRow.upd {w w' : World} {g b : Nat} {l : List Nat} (h : NRow w g l) (hu : Upd w b w') (hne : g ≠ b) : NRow w' g l := fun j hj => by rw [hu.cell hne]; exact h j hj
theorem own_upd {w w' : World} {base : Nat} {e : TypeId} {size n : Nat} {v : Value} {xs : List Value} {b : Nat} (h : w.ownsRow base e size v n xs) (hu : Upd w b w') (hne : ∀ k, v.ownBlock = some k → k ≠ b) : w'.ownsRow base e size v n xs := by
  refine ⟨h.1, ?_⟩
  rcases h.2 with h2 | ⟨g, cap, cur, rfl, hg, hh, r⟩
  · exact Or.inl h2
  · exact Or.inr ⟨g, cap, cur, rfl, hg, by rw [hu.block g (hne g rfl)]; exact hh, r⟩
def ival (n : Nat) : Value := .int .i64 (n : Int)
theorem nrow_of {w : World} {base : Nat} {v : Value} {l : List Nat} (h : w.ownsRow base 3 1 v l.length (l.map ival)) (hne : l.length ≠ 0) : ∃ g cap, v = .slice (some ⟨g, 0, none⟩) l.length cap ∧ base ≤ g ∧ g < w.heap.size ∧ NRow w g l := by
  rcases h.2 with ⟨_, h0⟩ | ⟨g, cap, cur, hv, hg, hh, _, _, _, ht⟩
  · exact absurd h0 hne
  · refine ⟨g, cap, hv, hg, (Array.getElem?_eq_some_iff.1 hh).1, fun j hj => ?_⟩
    rw [cell_of_row _ _ _ _ _ _ hh]
    have := congrArg (fun l : List Value => l[j]?) ht
    simp only [List.getElem?_take, Array.getElem?_toList] at this
    rw [if_pos (by omega)] at this
    rw [this, List.getElem?_map, List.getElem?_eq_getElem hj, List.getD_eq_getElem?_getD, List.getElem?_eq_getElem hj]; rfl
theorem nil_of {w : World} {base : Nat} {v : Value} {l : List Nat} (h : w.ownsRow base 3 1 v l.length (l.map ival)) (h0 : l.length = 0) : ∃ ad cap, v = .slice ad 0 cap := by
  rcases h.2 with ⟨rfl, _⟩ | ⟨g, cap, cur, rfl, _⟩
  · exact ⟨_, _, rfl⟩
  · rw [h0]; exact ⟨_, _, rfl⟩
section
variable {ops : Array Oper} {o : Oper} {rest : List Oper} {a : Act} {Q : Exit → Act → World → Prop} {w : World}
theorem st_icount {b k : Nat} {n : Nat} {cs : List Nat} {x y : Operand} (hw : Region.wanted o (yielded ops a.tmps) = true) (ho : o.op = .store 3 x y) (hx : a.eval x = .pointer (some ⟨b, k, none⟩)) (hy : a.eval y = .int .i64 (n : Int)) (hb : IBlk w b cs) (hk : k < 8)
    (h : ∀ w', IBlk w' b (cs.set k n) → Upd w b w' → wpList Try.prog ops Q rest (a.put o.dst undef) w') : wpList Try.prog ops Q (o :: rest) a w := by
  refine wpList_step (fun K hK => ?_)
  rw [if_pos hw]
  have hcell := hb.int k hk
  have hfr := frozen_of_row _ _ k _ _ hb.2
  have hB : IBlk (w.setCell ⟨b, k, none⟩ (.int .i64 (n : Int))) b (cs.set k n) := by
    refine ⟨by simp [hb.1], ?_⟩
    rw [heap_setCell_same w b _ _ _ _ hb.2, iar_set]
  have := h _ hB (Upd.setCell _ _ _ _)
  unfold Oper.wp execOp
  simp only [ho, hx, hy]
  simp [go_sem, hcell, hfr]
  exact hK _ _ this
end
set_option maxHeartbeats 8000000 in
set_option maxRecDepth 100000 in
theorem lawFair_v (t : Nat → Pr) (a : Int) (w : World) : Calls Try.prog 6 #[.agg (tcs t), .int .i64 a] w fun e w' => e = .returned (.bool true) ∧ Below w.heap.size w w' := by
  obtain ⟨m, hm, hmb⟩ := mask_ex (fun i => (t i).f 2 == 1)
  have hnx : ∀ x W, Calls Try.prog 18 #[.agg (tcs t), .int .i64 x] W fun e w' => e = .returned (.int .i64 (scan m.testBit (start x) 8)) ∧ Below W.heap.size W w' := fun x W => by
    have := next_v t x W; rw [scan_congr (start x) 8 hmb] at this; exact this
  have HM := hidI hm; clear hm
  have HMB := hidI hmb; clear hmb
  have hk0 := Blk.new w t
  have HB0 := hidI (Below.alloc (Below.refl w.heap.size w) (Nat.le_refl _) (.cells (tcs t) 29))
  obtain ⟨i0, hi, hz0, hz1, hz2⟩ := info_parts info3z
  go_enter Try.func6, Try.ntmps6
  go_wp2_with (first
    | ((with_reducible refine g_load 29 ?_ rfl); refine st_load29 (by rfl) rfl rfl hk0 ?_))
  go_loopw [5, 16] (fun v x wr => ∃ k : Nat, k ≤ 8 ∧ x = .int .i64 k ∧ wr.ownsRow (w.heap.size + 1) 3 1 v (rdL m k).length ((rdL m k).map ival) ∧ Blk wr w.heap.size t ∧ Below w.heap.size w wr) (fun _ x _ => 8 - (intOf x).toNat)
  case atStart => exact ⟨0, by omega, rfl, ⟨rfl, Or.inl ⟨rfl, rfl⟩⟩, hk0, HB0.out⟩
  case round =>
    clear hk0 HB0
    obtain ⟨k, hk, rfl, hown, hblk, hbel⟩ := hrel
    have HB := hidI hbel; clear hbel
    have hlb := hblk.lt
    by_cases hk8 : k < 8
    · have hlt : (k : Int) < 8 := by omega
      have hlo : (0 : Int) ≤ k := by omega
      have hlen := rdL_len m k
      have hrs := rdL_succ m k
      have hmk := HMB.out k hk8
      have hob := own_block hown
      have hol := hown.lt
      cases hst : ((t k).f 2 == 1)
      · have hbk : m.testBit k = false := by rw [← hmk]; exact hst
        rw [hbk] at hrs
        have HR : Hid (rdL m (k + 1) = rdL m k) := hrs
        clear hrs hmk hbk hlen
        go_wp2_with (first
          | ((with_reducible refine g_index 29 ?_ rfl); refine st_index29 (by rfl) rfl rfl rfl hk8 ?_)
          | ((with_reducible refine g_alloc 28 ?_ rfl); refine st_alloc28 (by rfl) rfl ?_; have hq1 := PBlk.new wr zp; have hblk1 := hblk.alloc (.cells (pcs zp) 28); have hown1 := hown.alloc (.cells (pcs zp) 28); have HB1 := hidI (HB.out.alloc HB.out.size (.cells (pcs zp) 28)); clear hblk hown HB)
          | ((with_reducible refine g_store 28 ?_ rfl); refine st_pstore28 (by rfl) rfl rfl rfl hq1 ?_; intro w2 hq2 hu2; have hblk2 := hu2.blk hblk1 (by omega); have hown2 := own_upd hown1 hu2 (fun k hk => by have := (hol k hk).2; omega); have HB2 := hidI (HB1.out.trans (hu2.below (by omega))); have d2 := hq2.int 2 (by decide) (by decide); clear hblk1 hown1 HB1 hq1 hu2 hq2 hob hol))
        go_roundw
        case measure => simp [intOf]; omega
        case rel => exact ⟨k + 1, by omega, by go_num, by rw [HR.out]; exact hown2, hblk2, HB2.out⟩
      · have hbk : m.testBit k = true := by rw [← hmk]; exact hst
        rw [hbk] at hrs
        have HR : Hid (rdL m (k + 1) = rdL m k ++ [k]) := hrs
        clear hrs hmk hbk
        have HL := hidI hlen; clear hlen
        go_wp2_with (first
          | ((with_reducible refine g_index 29 ?_ rfl); refine st_index29 (by rfl) rfl rfl rfl hk8 ?_)
          | ((with_reducible refine g_alloc 28 ?_ rfl); refine st_alloc28 (by rfl) rfl ?_; have hq1 := PBlk.new wr zp; have hblk1 := hblk.alloc (.cells (pcs zp) 28); have hown1 := hown.alloc (.cells (pcs zp) 28); have HB1 := hidI (HB.out.alloc HB.out.size (.cells (pcs zp) 28)); clear hblk hown HB)
          | ((with_reducible refine g_store 28 ?_ rfl); refine st_pstore28 (by rfl) rfl rfl rfl hq1 ?_; intro w2 hq2 hu2; have hs2 := hu2.size; rw [World.size_alloc] at hs2; have hblk2 := hu2.blk hblk1 (by omega); have hown2 := own_upd hown1 hu2 (fun k hk => by have := (hol k hk).2; omega); have HB2 := hidI (HB1.out.trans (hu2.below (by omega))); have d2 := hq2.int 2 (by decide) (by decide); clear hblk1 hown1 HB1 hq1 hu2 hq2; have HS2 := hidI hs2; clear hs2)
          | (at_builtin; refine wpList_append_own _ rfl _ _ 38 rfl (w.heap.size + 1) 3 i0 (.int .i64 0) 1 8 Try.underlying38 hi hz0 hz1 hz2 rfl (by decide) _ _ _ rfl (hown2.alloc _) ⟨w2.heap.size, 0, none⟩ 1 1 [.int .i64 (k : Int)] rfl rfl ?c1 ?c2 ?c3 ?c4 ?c5 ?_))
        case c1 => intro j u hj; have hj0 : j = 0 := (by have := (List.getElem?_eq_some_iff.1 hj).1; simpa using this); subst hj0; simp at hj; subst hj; simp [go_sem, Addr.add]
        case c2 => intro u hu; simp at hu; subst hu; rfl
        case c3 => have := HL.out; unfold maxLen; omega
        case c4 => have := HL.out; omega
        case c5 => have := HS2.out; simp; omega
        intro v' w1 hown3 hgrow _
        have hb3 := (HB2.out.alloc HB2.out.size (.cells #[.int .i64 (k : Int)] 3)).grown hgrow (by have := HB2.out.size; simp; omega) (fun k hk => by have := hob k hk; omega)
        have hgb : w1.heap[w.heap.size]? = some (.cells (tcs t) 29 (0, 0)) := by
          rw [hgrow.block _ (by have := hblk2.lt; simp; omega) (fun e => by have := hob _ e.symm; omega)]; exact hblk2.alloc _
        have hblk3 : Blk w1 w.heap.size t := hgb
        have hown4 : w1.ownsRow (w.heap.size + 1) 3 1 v' (rdL m (k + 1)).length ((rdL m (k + 1)).map ival) := by
          rw [HR.out, List.length_append, List.map_append]; exact hown3
        have HB3 := hidI hb3; clear hb3 hgrow hgb HB2 hblk2 hown2 hown3 hob hol
        go_wp2
        go_roundw
        case measure => simp [intOf]; omega
        case rel => exact ⟨k + 1, by omega, by go_num, hown4, hblk3, HB3.out⟩
    · obtain rfl : k = 8 := by omega
      rw [show ((8 : Nat) : Int) = 8 from rfl]
      have hol := hown.lt
      by_cases hn0 : (rdL m 8).length = 0
      · obtain ⟨ad, cap, rfl⟩ := nil_of hown hn0
        have hm0 : m = 0 := (pop0 m HM.out).2 hn0
        have hnx2 : ∀ W, Calls Try.prog 18 #[.agg (tcs t), .int .i64 a] W fun e w' => e = .returned (.int .i64 (-1)) ∧ Below W.heap.size W w' := fun W => by
          have := hnx a W; rw [hm0, fair_no _ (start_lt a)] at this; exact this
        clear hown hnx hn0 hm0 hol
        go_wp2_with (first
          | ((with_reducible refine g_load 29 ?_ rfl); refine st_load29 (by rfl) rfl rfl hblk ?_)
          | (go_at_call 18; refine (hnx2 _).mono ?_; rintro e w2 ⟨rfl, hb⟩; have HB1 := hidI (HB.out.trans (hb.mono HB.out.size)); clear HB hb hnx2)
          | (go_at_call 13; refine (alive_v _).mono ?_; rintro e w3 ⟨rfl, hb⟩; have HB2 := hidI (HB1.out.trans (hb.mono HB1.out.size)); clear HB1 hb))
        go_ret
        exact ⟨rfl, HB2.out⟩
      · obtain ⟨g, cap, rfl, hg, hg2, hrow⟩ := nrow_of hown hn0
        have hm0 : m ≠ 0 := fun e => hn0 ((pop0 m HM.out).1 e)
        have HM0 := hidI hm0; clear hm0
        have hn8 := rdL_len m 8
        have hrl : ∀ q, q < (rdL m 8).length → (rdL m 8).getD q 0 < 8 ∧ m.testBit ((rdL m 8).getD q 0) = true := fun q hq => by
          have hmem : (rdL m 8).getD q 0 ∈ rdL m 8 := by rw [List.getD_eq_getElem?_getD, List.getElem?_eq_getElem hq]; exact List.getElem_mem hq
          have := List.mem_filter.1 hmem
          exact ⟨List.mem_range.1 this.1, this.2⟩
        have HRL := hidI hrl; clear hrl
        have HE := hidI (fair_end m HM.out HM0.out (start a) (start_lt a))
        clear hown hol
        generalize hnn : (rdL m 8).length = n at *
        have HNN := hidI hnn; clear hnn
        have hnp : 0 < n := by omega
        have hnb : ((n : Nat) == 0) = false := by simpa using hn0
        have hni : ((n : Int) == 0) = false := by simp; omega
        have HRW := hidI hrow; clear hrow
        have hc0 : IBlk (wr.alloc (.cells #[.int .i64 0, .int .i64 0, .int .i64 0, .int .i64 0, .int .i64 0, .int .i64 0, .int .i64 0, .int .i64 0] 26)) wr.heap.size [0, 0, 0, 0, 0, 0, 0, 0] := ⟨rfl, heap_alloc_new wr _⟩
        have hblk1 := hblk.alloc (.cells #[.int .i64 0, .int .i64 0, .int .i64 0, .int .i64 0, .int .i64 0, .int .i64 0, .int .i64 0, .int .i64 0] 26)
        have HRW1 := hidI (HRW.out.alloc (.cells #[.int .i64 0, .int .i64 0, .int .i64 0, .int .i64 0, .int .i64 0, .int .i64 0, .int .i64 0, .int .i64 0] 26))
        have HB1 := hidI (HB.out.alloc HB.out.size (.cells #[.int .i64 0, .int .i64 0, .int .i64 0, .int .i64 0, .int .i64 0, .int .i64 0, .int .i64 0, .int .i64 0] 26))
        clear HRW HB hn0 hnb
        have hz26 := Try.zeroValue26
        go_wp2
        have hlc : w.heap.size < wr.heap.size := hlb
        clear hblk hz26
        generalize hc8 : wr.heap.size = c8 at *
        generalize (wr.alloc (.cells #[.int .i64 0, .int .i64 0, .int .i64 0, .int .i64 0, .int .i64 0, .int .i64 0, .int .i64 0, .int .i64 0] 26)) = W1 at *
        clear hc8
        obtain ⟨n2, hn2⟩ : ∃ n2 : Nat, n2 = 2 * n := ⟨_, rfl⟩
        have hn2i : (2 : Int) * n = n2 := by omega
        rw [hn2i]
        have HN2 := hidI hn2; clear hn2 hn2i
        go_loopw [9, 42] (fun x j wr0 => ∃ (J : Nat) (at_ : Int), J ≤ n2 ∧ j = .int .i64 J ∧ x = .int .i64 at_ ∧ Hid (start at_ = (iterR m (start a) J).1) ∧ IBlk wr0 c8 (iterR m (start a) J).2 ∧ Blk wr0 w.heap.size t ∧ Hid (NRow wr0 g (rdL m 8)) ∧ Below w.heap.size w wr0) (fun _ j _ => n2 - (intOf j).toNat)
        case atStart => exact ⟨0, a, by omega, rfl, rfl, rfl, hc0, hblk1, HRW1, HB1.out⟩
        case round =>
          clear hc0 hblk1 HRW1 HB1
          obtain ⟨J, at_, hJ, rfl, rfl, hst, hcb, hblk, hrw, hbel⟩ := hrel
          have HB := hidI hbel; clear hbel
          by_cases hJn : J < n2
          · have hJi : (J : Int) < n2 := by omega
            have hJ0 : (0 : Int) ≤ J := by omega
            have hn16 : n2 ≤ 16 := by have := HN2.out; omega
            have hsl := iter_fst m (start a) HM.out HM0.out (start_lt a) J
            have hgo := fair_go m HM.out HM0.out _ hsl
            obtain ⟨k, hk⟩ : ∃ k : Nat, scan m.testBit (iterR m (start a) J).1 8 = k := ⟨(scan m.testBit (iterR m (start a) J).1 8).toNat, by omega⟩
            have hk8 : k < 8 := by omega
            have hki : (k : Int) < 8 := by omega
            have hk0 : (0 : Int) ≤ k := by omega
            have hit : iterR m (start a) (J + 1) = (k + 1, (iterR m (start a) J).2.set k ((iterR m (start a) J).2.getD k 0 + 1)) := by
              rw [iterR]; unfold stepR; rw [hk]; rfl
            have hnx2 : ∀ W, Calls Try.prog 18 #[.agg (tcs t), .int .i64 at_] W fun e w' => e = .returned (.int .i64 (k : Int)) ∧ Below W.heap.size W w' := fun W => by
              have := hnx at_ W; rw [hst.out, hk] at this; exact this
            have hsm := iter_small m (start a) J k
            have hsk : start (k : Int) = k + 1 := by unfold start; rw [if_pos (by omega)]; simp
            have HIT := hidI hit; clear hit
            have HSK : Hid (start (k : Int) = (iterR m (start a) (J + 1)).1) := by rw [Hid, HIT.out]; exact hsk
            have HBT := hidI (fun (A i : Nat) (hA : A < 8) (hs : start at_ = A + 1) (hi : i < 8) (hb : m.testBit i = true) (hAi : A < i) (hAk : A < k) => by
              have := fair_between m HM.out A hA i hi hb hAi
              rw [← hs, hst.out, hk] at this
              exact (show k ≤ i by omega))
            have HST := hidI hst.out
            clear hsk hgo hsl hk hst hnx
            generalize hc : (iterR m (start a) J).2.getD k 0 = c at *
            have HC := hidI hc; clear hc
            generalize (iterR m (start a) J).2 = cs at *
            have hc0 : (0 : Int) ≤ c := by omega
            have hc16 : (c : Int) ≤ 16 := by omega
            have HCL : Hid (∀ w', IBlk w' c8 (cs.set k (c + 1)) → IBlk w' c8 (iterR m (start a) (J + 1)).2) := fun w' h => by rw [HIT.out]; exact h
            cases hA : decide ((0 : Int) ≤ at_)
            · go_wp2_with (first
                | ((with_reducible refine g_load 29 ?_ rfl); refine st_load29 (by rfl) rfl rfl hblk ?_)
                | (go_at_call 18; refine (hnx2 _).mono ?_; rintro e w1 ⟨rfl, hb⟩; have hcb1 := hcb.below hb hcb.lt; have hblk1 := hblk.below hb hblk.lt; have hrw1 := hidI (hrw.out.below hb (by have := hcb.lt; omega)); have HB1 := hidI (HB.out.trans (hb.mono HB.out.size)); have hck := hcb1.int k hk8; rw [HC.out] at hck; clear hcb hblk hrw HB hb hnx2)
                | ((with_reducible refine g_store 3 ?_ rfl); refine st_icount (n := c + 1) (by rfl) rfl rfl rfl hcb1 hk8 ?_; intro w2 hcb2 hu2; have hblk2 := hu2.blk hblk1 (by omega); have hrw2 := hidI (hrw1.out.upd hu2 (by omega)); have HB2 := hidI (HB1.out.trans (hu2.below (by omega))); clear hcb1 hblk1 hrw1 HB1 hu2 hck))
              go_roundw
              case measure => simp [intOf]; omega
              case rel => exact ⟨J + 1, k, by omega, by go_num, rfl, HSK, HCL.out _ hcb2, hblk2, hrw2, HB2.out⟩
            cases hA8 : decide (at_ < (8 : Int))
            · go_wp2_with (first
                | ((with_reducible refine g_load 29 ?_ rfl); refine st_load29 (by rfl) rfl rfl hblk ?_)
                | (go_at_call 18; refine (hnx2 _).mono ?_; rintro e w1 ⟨rfl, hb⟩; have hcb1 := hcb.below hb hcb.lt; have hblk1 := hblk.below hb hblk.lt; have hrw1 := hidI (hrw.out.below hb (by have := hcb.lt; omega)); have HB1 := hidI (HB.out.trans (hb.mono HB.out.size)); have hck := hcb1.int k hk8; rw [HC.out] at hck; clear hcb hblk hrw HB hb hnx2)
                | ((with_reducible refine g_store 3 ?_ rfl); refine st_icount (n := c + 1) (by rfl) rfl rfl rfl hcb1 hk8 ?_; intro w2 hcb2 hu2; have hblk2 := hu2.blk hblk1 (by omega); have hrw2 := hidI (hrw1.out.upd hu2 (by omega)); have HB2 := hidI (HB1.out.trans (hu2.below (by omega))); clear hcb1 hblk1 hrw1 HB1 hu2 hck))
              go_roundw
              case measure => simp [intOf]; omega
              case rel => exact ⟨J + 1, k, by omega, by go_num, rfl, HSK, HCL.out _ hcb2, hblk2, hrw2, HB2.out⟩
            have hA' : (0 : Int) ≤ at_ := of_decide_eq_true hA
            have hA8' : at_ < (8 : Int) := of_decide_eq_true hA8
            obtain ⟨A, rfl⟩ : ∃ A : Nat, at_ = A := ⟨at_.toNat, by omega⟩
            have hA8n : A < 8 := by omega
            have hsA : start (A : Int) = A + 1 := by unfold start; rw [if_pos (by omega)]; simp
            have HBU := hidI (fun (i : Nat) (hi : i < 8) (hb : m.testBit i = true) (hAi : A < i) (hAk : A < k) => HBT.out A i hA8n hsA hi hb hAi hAk)
            clear HBT hsA hA' hA8'
            by_cases hAk : A < k
            · have hK : decide ((A : Int) < k) = true := by simp; omega
              have hKn : decide (A < k) = true := by simpa using hAk
              have HAK := hidI hAk; clear hAk
              go_wp2_with (first
                | ((with_reducible refine g_load 29 ?_ rfl); refine st_load29 (by rfl) rfl rfl hblk ?_)
                | (go_at_call 18; refine (hnx2 _).mono ?_; rintro e w1 ⟨rfl, hb⟩; have hcb1 := hcb.below hb hcb.lt; have hblk1 := hblk.below hb hblk.lt; have hrw1 := hidI (hrw.out.below hb (by have := hcb.lt; omega)); have HB1 := hidI (HB.out.trans (hb.mono HB.out.size)); have hck := hcb1.int k hk8; rw [HC.out] at hck; clear hcb hblk hrw HB hb hnx2)
                | ((with_reducible refine g_store 3 ?_ rfl); refine st_icount (n := c + 1) (by rfl) rfl rfl rfl hcb1 hk8 ?_; intro w2 hcb2 hu2; have hblk2 := hu2.blk hblk1 (by omega); have hrw2 := hidI (hrw1.out.upd hu2 (by omega)); have HB2 := hidI (HB1.out.trans (hu2.below (by omega))); clear hcb1 hblk1 hrw1 HB1 hu2 hck))
              have hcl2 : 0 ≤ n := Nat.zero_le n
              have hrow2 := hrw2.out
              go_loop [71] (fun v => ∃ q : Nat, q ≤ n ∧ v = .int .i64 q) (fun v => n - (intOf v).toNat)
              case atStart => exact ⟨0, by omega, rfl⟩
              case round =>
                obtain ⟨q, hq, rfl⟩ := hrel
                by_cases hqn : q < n
                · have hqi : (q : Int) < n := by omega
                  have hq0 : (0 : Int) ≤ q := by omega
                  have hcell := hrow2 q (by rw [HNN.out]; exact hqn)
                  obtain ⟨hi8, hib⟩ := HRL.out q hqn
                  have hbt := HBU.out _ hi8 hib
                  generalize (rdL m 8).getD q 0 = i at *
                  clear hib
                  have HR2 := hidI hrow2; clear hrow2
                  by_cases hAi : A < i
                  · have hki2 := hbt hAi HAK.out
                    have g1 : decide ((A : Int) < i) = true := by simp; omega
                    have g1n : decide (A < i) = true := by simpa using hAi
                    have g2 : decide ((i : Int) < k) = false := by simp; omega
                    have g2n : decide (i < k) = false := by simp; omega
                    clear hbt hAi hki2
                    go_wp2
                    exact ⟨⟨q + 1, by omega, by go_num⟩, by simp [intOf]; omega⟩
                  · have g1 : decide ((A : Int) < i) = false := by simp; omega
                    have g1n : decide (A < i) = false := by simpa using hAi
                    clear hbt hAi
                    go_wp2
                    exact ⟨⟨q + 1, by omega, by go_num⟩, by simp [intOf]; omega⟩
                · obtain rfl : q = n := by omega
                  have hqi : decide ((q : Int) < q) = false := by simp
                  clear hqn hrow2
                  go_wp2
                  go_roundw
                  case measure => simp [intOf]; omega
                  case rel => exact ⟨J + 1, k, by omega, by go_num, rfl, HSK, HCL.out _ hcb2, hblk2, hrw2, HB2.out⟩
            · have hK : decide ((A : Int) < k) = false := by simp; omega
              have hKn : decide (A < k) = false := by simpa using hAk
              clear hAk
              go_wp2_with (first
                | ((with_reducible refine g_load 29 ?_ rfl); refine st_load29 (by rfl) rfl rfl hblk ?_)
                | (go_at_call 18; refine (hnx2 _).mono ?_; rintro e w1 ⟨rfl, hb⟩; have hcb1 := hcb.below hb hcb.lt; have hblk1 := hblk.below hb hblk.lt; have hrw1 := hidI (hrw.out.below hb (by have := hcb.lt; omega)); have HB1 := hidI (HB.out.trans (hb.mono HB.out.size)); have hck := hcb1.int k hk8; rw [HC.out] at hck; clear hcb hblk hrw HB hb hnx2)
                | ((with_reducible refine g_store 3 ?_ rfl); refine st_icount (n := c + 1) (by rfl) rfl rfl rfl hcb1 hk8 ?_; intro w2 hcb2 hu2; have hblk2 := hu2.blk hblk1 (by omega); have hrw2 := hidI (hrw1.out.upd hu2 (by omega)); have HB2 := hidI (HB1.out.trans (hu2.below (by omega))); clear hcb1 hblk1 hrw1 HB1 hu2 hck))
              go_roundw
              case measure => simp [intOf]; omega
              case rel => exact ⟨J + 1, k, by omega, by go_num, rfl, HSK, HCL.out _ hcb2, hblk2, hrw2, HB2.out⟩
          · obtain rfl : J = n2 := by omega
            have hJi : decide ((J : Int) < J) = false := by simp
            have hfin : (iterR m (start a) J).2 = (List.range 8).map (fun i => if m.testBit i then 2 else 0) := by rw [HN2.out]; exact HE.out
            have HFIN : Hid (∀ i, i < 8 → (iterR m (start a) J).2.getD i 0 = if m.testBit i then 2 else 0) := fun i hi => by
              rw [hfin, List.getD_eq_getElem?_getD, List.getElem?_map, List.getElem?_range hi]; rfl
            clear hfin hJn hst hnx hrw HE
            generalize (iterR m (start a) J).2 = cs at *
            go_wp2_with (first
              | ((with_reducible refine g_load 29 ?_ rfl); refine st_load29 (by rfl) rfl rfl hblk ?_))
            go_loopw [87] (fun x wr3 => ∃ i : Nat, i ≤ 8 ∧ x = .int .i64 i ∧ IBlk wr3 c8 cs ∧ Below w.heap.size w wr3) (fun x _ => 8 - (intOf x).toNat)
            case atStart => exact ⟨0, by omega, rfl, hcb, HB.out⟩
            case round =>
              clear hcb hblk HB
              obtain ⟨i, hi, rfl, hc, hbel⟩ := hrel
              have HB := hidI hbel; clear hbel
              have hcl := hc.lt
              by_cases hi8 : i < 8
              · have hlt : (i : Int) < 8 := by omega
                have hlo : (0 : Int) ≤ i := by omega
                have hmk := HMB.out i hi8
                have hfi := HFIN.out i hi8
                cases hst : ((t i).f 2 == 1)
                · have hbk : m.testBit i = false := by rw [← hmk]; exact hst
                  have HC : Hid (some (Value.int .i64 ((cs.getD i 0 : Nat) : Int)) = some (.int .i64 0)) := by rw [Hid, hfi, hbk]; rfl
                  clear hmk hfi hbk
                  go_wp2_with (first
                    | ((with_reducible refine g_index 29 ?_ rfl); refine st_index29 (by rfl) rfl rfl rfl hi8 ?_)
                    | ((with_reducible refine g_alloc 28 ?_ rfl); refine st_alloc28 (by rfl) rfl ?_; have hq1 := PBlk.new wr zp; have hc1 := hc.alloc (.cells (pcs zp) 28); have HB1 := hidI (HB.out.alloc HB.out.size (.cells (pcs zp) 28)); have hsB := HB.out.size; clear hc HB)
                    | ((with_reducible refine g_store 28 ?_ rfl); refine st_pstore28 (by rfl) rfl rfl rfl hq1 ?_; intro w2 hq2 hu2; have hc2 := hu2.iblk hc1 (by omega); have HB2 := hidI (HB1.out.trans (hu2.below (by omega))); clear hc1 HB1 hq1 hu2))
                  generalize wr.heap.size = b14 at *
                  refine wp_region_held_drew (S := fun wh => IBlk wh c8 cs ∧ PBlk wh b14 (t i) ∧ Below w.heap.size w wh) (by kernel_rfl) (⟨hc2.drew, hq2.drew, HB2.out.drew⟩) (fun hHeld => ?_)
                  show wpAnyH _ _ _ _ _ (13 + 1) #[false, false, false, false, false, false, false, false, false, false, false, false, false, false] _ _
                  refine wpAnyH_take (i := 0) (v := .int .i64 (i : Int)) rfl (by kernel_rfl) (by kernel_rfl) (by kernel_rfl) (fun _ _ _ h => h) (Or.inl ⟨by rfl, fun _ _ => rfl⟩) hHeld ?_
                  show wpAnyH _ _ _ _ _ _ _ (Act.put _ (some 91) _) _
                  simp only [Act.put, List.setIfInBounds_toArray, List.set_cons_zero, List.set_cons_succ]
                  refine wpAnyH_take (i := 1) (v := .pointer (some ⟨c8, i, none⟩)) rfl (by kernel_rfl) (by kernel_rfl) (by kernel_rfl) (fun _ _ _ h => h) (Or.inl ⟨by rfl, fun wh hS => by go_simp⟩) hHeld ?_
                  show wpAnyH _ _ _ _ _ _ _ (Act.put _ (some 92) _) _
                  simp only [Act.put, List.setIfInBounds_toArray, List.set_cons_zero, List.set_cons_succ]
                  refine wpAnyH_take (i := 2) (v := .int .i64 0) rfl (by kernel_rfl) (by kernel_rfl) (by kernel_rfl) (fun _ _ _ h => h) (yieldsIf_cell (by rfl) rfl rfl (fun wh hS => (hS.1.int i hi8).trans HC.out) isInt3) hHeld ?_
                  show wpAnyH _ _ _ _ _ _ _ (Act.put _ (some 93) _) _
                  simp only [Act.put, List.setIfInBounds_toArray, List.set_cons_zero, List.set_cons_succ]
                  refine wpAnyH_take (i := 3) (v := .bool false) rfl (by kernel_rfl) (by kernel_rfl) (by kernel_rfl) (fun _ _ _ h => h) (yb (b := 0 == 2) (by rfl) (fun _ _ => rfl) rfl) hHeld ?_
                  show wpAnyH _ _ _ _ _ _ _ (Act.put _ (some 94) _) _
                  simp only [Act.put, List.setIfInBounds_toArray, List.set_cons_zero, List.set_cons_succ]
                  refine wpAnyH_take (i := 4) (v := .pointer (some ⟨b14, 2, none⟩)) rfl (by kernel_rfl) (by kernel_rfl) (by kernel_rfl) (fun _ _ _ h => h) (Or.inl ⟨by rfl, fun _ _ => rfl⟩) hHeld ?_
                  show wpAnyH _ _ _ _ _ _ _ (Act.put _ (some 95) _) _
                  simp only [Act.put, List.setIfInBounds_toArray, List.set_cons_zero, List.set_cons_succ]
                  refine wpAnyH_take (i := 5) (v := .int .i64 ((t i).f 2)) rfl (by kernel_rfl) (by kernel_rfl) (by kernel_rfl) (fun _ _ _ h => h) (yieldsIf_cell (by rfl) rfl rfl (fun wh hS => hS.2.1.int 2 (by decide) (by decide)) isInt3) hHeld ?_
                  show wpAnyH _ _ _ _ _ _ _ (Act.put _ (some 96) _) _
                  simp only [Act.put, List.setIfInBounds_toArray, List.set_cons_zero, List.set_cons_succ]
                  refine wpAnyH_take (i := 6) (v := .bool false) rfl (by kernel_rfl) (by kernel_rfl) (by kernel_rfl) (fun _ _ _ h => h) (yb (b := ((t i).f 2) == 1) (by rfl) (fun _ _ => rfl) hst) hHeld ?_
                  show wpAnyH _ _ _ _ _ _ _ (Act.put _ (some 97) _) _
                  simp only [Act.put, List.setIfInBounds_toArray, List.set_cons_zero, List.set_cons_succ]
                  refine wpAnyH_take (i := 7) (v := .bool false) rfl (by kernel_rfl) (by kernel_rfl) (by kernel_rfl) (fun _ _ _ h => h) (Or.inl ⟨by rfl, fun _ _ => rfl⟩) hHeld ?_
                  show wpAnyH _ _ _ _ _ _ _ (Act.put _ (some 98) _) _
                  simp only [Act.put, List.setIfInBounds_toArray, List.set_cons_zero, List.set_cons_succ]
                  refine wpAnyH_take (i := 8) (v := .bool false) rfl (by kernel_rfl) (by kernel_rfl) (by kernel_rfl) (fun _ _ _ h => h) (Or.inl ⟨by rfl, fun _ _ => rfl⟩) hHeld ?_
                  show wpAnyH _ _ _ _ _ _ _ (Act.put _ (some 99) _) _
                  simp only [Act.put, List.setIfInBounds_toArray, List.set_cons_zero, List.set_cons_succ]
                  refine wpAnyH_take (i := 9) (v := .int .i64 (i : Int)) rfl (by kernel_rfl) (by kernel_rfl) (by kernel_rfl) (fun _ _ _ h => h) (Or.inl ⟨by rfl, fun _ _ => rfl⟩) hHeld ?_
                  show wpAnyH _ _ _ _ _ _ _ (Act.put _ (some 100) _) _
                  simp only [Act.put, List.setIfInBounds_toArray, List.set_cons_zero, List.set_cons_succ]
                  refine wpAnyH_take (i := 10) (v := .pointer (some ⟨c8, i, none⟩)) rfl (by kernel_rfl) (by kernel_rfl) (by kernel_rfl) (fun _ _ _ h => h) (Or.inl ⟨by rfl, fun wh hS => by go_simp⟩) hHeld ?_
                  show wpAnyH _ _ _ _ _ _ _ (Act.put _ (some 101) _) _
                  simp only [Act.put, List.setIfInBounds_toArray, List.set_cons_zero, List.set_cons_succ]
                  refine wpAnyH_take (i := 11) (v := .int .i64 0) rfl (by kernel_rfl) (by kernel_rfl) (by kernel_rfl) (fun _ _ _ h => h) (yieldsIf_cell (by rfl) rfl rfl (fun wh hS => (hS.1.int i hi8).trans HC.out) isInt3) hHeld ?_
                  show wpAnyH _ _ _ _ _ _ _ (Act.put _ (some 102) _) _
                  simp only [Act.put, List.setIfInBounds_toArray, List.set_cons_zero, List.set_cons_succ]
                  refine wpAnyH_take (i := 12) (v := .bool false) rfl (by kernel_rfl) (by kernel_rfl) (by kernel_rfl) (fun _ _ _ h => h) (yb (b := 0 == 1) (by rfl) (fun _ _ => rfl) rfl) hHeld ?_
                  show wpAnyH _ _ _ _ _ _ _ (Act.put _ (some 103) _) _
                  simp only [Act.put, List.setIfInBounds_toArray, List.set_cons_zero, List.set_cons_succ]
                  refine wpAnyH_take (i := 13) (v := .bool false) rfl (by kernel_rfl) (by kernel_rfl) (by kernel_rfl) (fun _ _ _ h => h) (Or.inl ⟨by rfl, fun _ _ => rfl⟩) hHeld ?_
                  show wpAnyH _ _ _ _ _ _ _ (Act.put _ (some 104) _) _
                  simp only [Act.put, List.setIfInBounds_toArray, List.set_cons_zero, List.set_cons_succ]
                  refine wpAnyH_done (by kernel_rfl) ?_ _
                  have hc3 := hHeld.1
                  have HB3 := hidI hHeld.2.2
                  clear hHeld
                  go_wp2
                  go_roundw
                  case measure => simp [intOf]; omega
                  case rel => exact ⟨i + 1, by omega, by go_num, hc3, HB3.out⟩
                · have hbk : m.testBit i = true := by rw [← hmk]; exact hst
                  have HC : Hid (some (Value.int .i64 ((cs.getD i 0 : Nat) : Int)) = some (.int .i64 2)) := by rw [Hid, hfi, hbk]; rfl
                  clear hmk hfi hbk
                  go_wp2_with (first
                    | ((with_reducible refine g_index 29 ?_ rfl); refine st_index29 (by rfl) rfl rfl rfl hi8 ?_)
                    | ((with_reducible refine g_alloc 28 ?_ rfl); refine st_alloc28 (by rfl) rfl ?_; have hq1 := PBlk.new wr zp; have hc1 := hc.alloc (.cells (pcs zp) 28); have HB1 := hidI (HB.out.alloc HB.out.size (.cells (pcs zp) 28)); have hsB := HB.out.size; clear hc HB)
                    | ((with_reducible refine g_store 28 ?_ rfl); refine st_pstore28 (by rfl) rfl rfl rfl hq1 ?_; intro w2 hq2 hu2; have hc2 := hu2.iblk hc1 (by omega); have HB2 := hidI (HB1.out.trans (hu2.below (by omega))); clear hc1 HB1 hq1 hu2))
                  generalize wr.heap.size = b14 at *
                  refine wp_region_held_drew (S := fun wh => IBlk wh c8 cs ∧ PBlk wh b14 (t i) ∧ Below w.heap.size w wh) (by kernel_rfl) (⟨hc2.drew, hq2.drew, HB2.out.drew⟩) (fun hHeld => ?_)
                  show wpAnyH _ _ _ _ _ (13 + 1) #[false, false, false, false, false, false, false, false, false, false, false, false, false, false] _ _
                  refine wpAnyH_take (i := 0) (v := .int .i64 (i : Int)) rfl (by kernel_rfl) (by kernel_rfl) (by kernel_rfl) (fun _ _ _ h => h) (Or.inl ⟨by rfl, fun _ _ => rfl⟩) hHeld ?_
                  show wpAnyH _ _ _ _ _ _ _ (Act.put _ (some 91) _) _
                  simp only [Act.put, List.setIfInBounds_toArray, List.set_cons_zero, List.set_cons_succ]
                  refine wpAnyH_take (i := 1) (v := .pointer (some ⟨c8, i, none⟩)) rfl (by kernel_rfl) (by kernel_rfl) (by kernel_rfl) (fun _ _ _ h => h) (Or.inl ⟨by rfl, fun wh hS => by go_simp⟩) hHeld ?_
                  show wpAnyH _ _ _ _ _ _ _ (Act.put _ (some 92) _) _
                  simp only [Act.put, List.setIfInBounds_toArray, List.set_cons_zero, List.set_cons_succ]
                  refine wpAnyH_take (i := 2) (v := .int .i64 2) rfl (by kernel_rfl) (by kernel_rfl) (by kernel_rfl) (fun _ _ _ h => h) (yieldsIf_cell (by rfl) rfl rfl (fun wh hS => (hS.1.int i hi8).trans HC.out) isInt3) hHeld ?_
                  show wpAnyH _ _ _ _ _ _ _ (Act.put _ (some 93) _) _
                  simp only [Act.put, List.setIfInBounds_toArray, List.set_cons_zero, List.set_cons_succ]
                  refine wpAnyH_take (i := 3) (v := .bool true) rfl (by kernel_rfl) (by kernel_rfl) (by kernel_rfl) (fun _ _ _ h => h) (yb (b := 2 == 2) (by rfl) (fun _ _ => rfl) rfl) hHeld ?_
                  show wpAnyH _ _ _ _ _ _ _ (Act.put _ (some 94) _) _
                  simp only [Act.put, List.setIfInBounds_toArray, List.set_cons_zero, List.set_cons_succ]
                  refine wpAnyH_take (i := 4) (v := .pointer (some ⟨b14, 2, none⟩)) rfl (by kernel_rfl) (by kernel_rfl) (by kernel_rfl) (fun _ _ _ h => h) (Or.inl ⟨by rfl, fun _ _ => rfl⟩) hHeld ?_
                  show wpAnyH _ _ _ _ _ _ _ (Act.put _ (some 95) _) _
                  simp only [Act.put, List.setIfInBounds_toArray, List.set_cons_zero, List.set_cons_succ]
                  refine wpAnyH_take (i := 5) (v := .int .i64 ((t i).f 2)) rfl (by kernel_rfl) (by kernel_rfl) (by kernel_rfl) (fun _ _ _ h => h) (yieldsIf_cell (by rfl) rfl rfl (fun wh hS => hS.2.1.int 2 (by decide) (by decide)) isInt3) hHeld ?_
                  show wpAnyH _ _ _ _ _ _ _ (Act.put _ (some 96) _) _
                  simp only [Act.put, List.setIfInBounds_toArray, List.set_cons_zero, List.set_cons_succ]
                  refine wpAnyH_take (i := 6) (v := .bool true) rfl (by kernel_rfl) (by kernel_rfl) (by kernel_rfl) (fun _ _ _ h => h) (yb (b := ((t i).f 2) == 1) (by rfl) (fun _ _ => rfl) hst) hHeld ?_
                  show wpAnyH _ _ _ _ _ _ _ (Act.put _ (some 97) _) _
                  simp only [Act.put, List.setIfInBounds_toArray, List.set_cons_zero, List.set_cons_succ]
                  refine wpAnyH_take (i := 7) (v := .bool false) rfl (by kernel_rfl) (by kernel_rfl) (by kernel_rfl) (fun _ _ _ h => h) (Or.inl ⟨by rfl, fun _ _ => rfl⟩) hHeld ?_
                  show wpAnyH _ _ _ _ _ _ _ (Act.put _ (some 98) _) _
                  simp only [Act.put, List.setIfInBounds_toArray, List.set_cons_zero, List.set_cons_succ]
                  refine wpAnyH_take (i := 8) (v := .bool false) rfl (by kernel_rfl) (by kernel_rfl) (by kernel_rfl) (fun _ _ _ h => h) (Or.inl ⟨by rfl, fun _ _ => rfl⟩) hHeld ?_
                  show wpAnyH _ _ _ _ _ _ _ (Act.put _ (some 99) _) _
                  simp only [Act.put, List.setIfInBounds_toArray, List.set_cons_zero, List.set_cons_succ]
                  refine wpAnyH_take (i := 9) (v := .int .i64 (i : Int)) rfl (by kernel_rfl) (by kernel_rfl) (by kernel_rfl) (fun _ _ _ h => h) (Or.inl ⟨by rfl, fun _ _ => rfl⟩) hHeld ?_
                  show wpAnyH _ _ _ _ _ _ _ (Act.put _ (some 100) _) _
                  simp only [Act.put, List.setIfInBounds_toArray, List.set_cons_zero, List.set_cons_succ]
                  refine wpAnyH_take (i := 10) (v := .pointer (some ⟨c8, i, none⟩)) rfl (by kernel_rfl) (by kernel_rfl) (by kernel_rfl) (fun _ _ _ h => h) (Or.inl ⟨by rfl, fun wh hS => by go_simp⟩) hHeld ?_
                  show wpAnyH _ _ _ _ _ _ _ (Act.put _ (some 101) _) _
                  simp only [Act.put, List.setIfInBounds_toArray, List.set_cons_zero, List.set_cons_succ]
                  refine wpAnyH_take (i := 11) (v := .int .i64 2) rfl (by kernel_rfl) (by kernel_rfl) (by kernel_rfl) (fun _ _ _ h => h) (yieldsIf_cell (by rfl) rfl rfl (fun wh hS => (hS.1.int i hi8).trans HC.out) isInt3) hHeld ?_
                  show wpAnyH _ _ _ _ _ _ _ (Act.put _ (some 102) _) _
                  simp only [Act.put, List.setIfInBounds_toArray, List.set_cons_zero, List.set_cons_succ]
                  refine wpAnyH_take (i := 12) (v := .bool false) rfl (by kernel_rfl) (by kernel_rfl) (by kernel_rfl) (fun _ _ _ h => h) (yb (b := 2 == 1) (by rfl) (fun _ _ => rfl) rfl) hHeld ?_
                  show wpAnyH _ _ _ _ _ _ _ (Act.put _ (some 103) _) _
                  simp only [Act.put, List.setIfInBounds_toArray, List.set_cons_zero, List.set_cons_succ]
                  refine wpAnyH_take (i := 13) (v := .bool false) rfl (by kernel_rfl) (by kernel_rfl) (by kernel_rfl) (fun _ _ _ h => h) (Or.inl ⟨by rfl, fun _ _ => rfl⟩) hHeld ?_
                  show wpAnyH _ _ _ _ _ _ _ (Act.put _ (some 104) _) _
                  simp only [Act.put, List.setIfInBounds_toArray, List.set_cons_zero, List.set_cons_succ]
                  refine wpAnyH_done (by kernel_rfl) ?_ _
                  have hc3 := hHeld.1
                  have HB3 := hidI hHeld.2.2
                  clear hHeld
                  go_wp2
                  go_roundw
                  case measure => simp [intOf]; omega
                  case rel => exact ⟨i + 1, by omega, by go_num, hc3, HB3.out⟩
              · obtain rfl : i = 8 := by omega
                rw [show ((8 : Nat) : Int) = 8 from rfl]
                go_wp2_with (first
                  | (go_at_call 13; refine (alive_v _).mono ?_; rintro e w3 ⟨rfl, hb⟩; have HB2 := hidI (HB.out.trans (hb.mono HB.out.size)); clear HB hb))
                go_ret
                exact ⟨rfl, HB2.out⟩
end Go.Proofs.Ytnnknhcdnklalaa.A
