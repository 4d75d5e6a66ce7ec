/- Reap of the program: the table, the number, the status and the error that it returns. No condition. -/
import Derived.Test.YtnnknhcdnklalaaF9
namespace Go.Proofs.Ytnnknhcdnklalaa.A
open Go Go.RowKit
set_option linter.unusedSimpArgs false
set_option linter.unusedVariables false
def childP (t : Nat → Pr) (n : Int) (z : Bool) (i : Nat) : Bool := ((t i).f 2 != 0 && (t i).f 1 == n) && (((t i).f 2 != 0 && (t i).f 2 != 3) != z)
theorem scan_ge (p : Nat → Bool) (s : Nat) : ∀ n, 0 ≤ scan p s n → ∃ i : Nat, i < 8 ∧ scan p s n = i ∧ p i = true
  | 0, h => by simp [scan] at h
  | n + 1, h => by
    unfold scan at h ⊢
    split
    · rename_i hp; exact ⟨_, Nat.mod_lt _ (by decide), rfl, hp⟩
    · rename_i hp; rw [if_neg hp] at h; exact scan_ge p s n h
theorem draw_store29 {ops : Array Oper} {Q : Exit → Act → World → Prop} {i : Nat} {K : Act → World → Prop} {a : Act} {w : World} (o : Oper) (x y : Operand) (b : Nat) (t t' : Nat → Pr) (ho : ops[i]? = some o) (hw : Region.wanted o (yielded ops a.tmps) = true)
    (hop : o.op = .store 29 x y) (hx : a.eval x = .pointer (some ⟨b, 0, none⟩)) (hy : a.eval y = .agg (tcs t')) (hb : Blk w b t) (h : ∀ w', Blk w' b t' → Upd w b w' → K (a.put o.dst undef) w') : wpOp Try.prog ops Q i K a w := by
  unfold wpOp; rw [ho]; simp only [hw, if_true]; left
  refine wp_store_mid 29 x y hop b 0 (tcs t') hx hy (there_blk hb _ (by rw [tcs_size, tcs_size]; omega)) (by rw [tcs_size]; exact info29) (tcs_one t') (h _ ?_ (Upd.setCells b _ _ _))
  obtain ⟨C', e1, e2, e3⟩ := setCells_blk b (tcs t').toList 0 w _ _ hb
  unfold Blk; rw [e1]
  rw [tcs_ext (t := t') (C := C') (by rw [e2, tcs_size]) (fun k j hk hj => by
    rw [e3 _ (by rw [tcs_size]; omega), Array.length_toList, tcs_size, Array.getElem?_toList, if_pos (by omega), Nat.sub_zero, tcs_get t' k j hk hj])]
theorem Blk.loadv {w : World} {b : Nat} {t : Nat → Pr} (h : Blk w b t) : (loadVar 29 ⟨b, 0, none⟩).run Try.prog w = .ok (.agg (tcs t)) w :=
  run_loadVar_mid w b 0 29 (tcs t).toList _ h.whole Try.underlying29 rfl (info29l t)
theorem child_v (t : Nat → Pr) (n : Int) (z : Bool) (B p : Nat) (w : World) (hb : Blk w B t) (hp : w.cell? ⟨p, 0, none⟩ = some (.int .i64 n)) :
    Calls Try.prog 35 #[.bool z, .pointer (some ⟨B, 0, none⟩), .pointer (some ⟨p, 0, none⟩)] w fun e w' => e = .returned (.int .i64 (scan (childP t n z) 0 8)) ∧ Below w.heap.size w w' := by
  have hb1 := hb.alloc (.cells #[.bool z] 4)
  have hp1 := cell_kept hp (.cells #[.bool z] 4)
  have hz1 : (w.alloc (.cells #[.bool z] 4)).cell? ⟨w.heap.size, 0, none⟩ = some (.bool z) := cell_of_row _ _ _ _ _ _ (heap_alloc_new _ _)
  have hlt := World.block_lt_of_cell? _ _ hp1
  have hB0 := Below.alloc (Below.refl w.heap.size w) (Nat.le_refl _) (.cells #[.bool z] 4)
  have hc := first_v t (-1) 37 #[.pointer (some ⟨p, 0, none⟩), .pointer (some ⟨w.heap.size, 0, none⟩)] (childP t n z) (w.alloc (.cells #[.bool z] 4)) cf37
    (fun i w' _ hb => creap_v i (t i) w' _ _ n z (by rw [hb.cell hlt]; exact hp1) (by rw [hb.cell (by simp)]; exact hz1))
  clear hz1 hlt hp1 hp
  go_enter Try.func35, Try.ntmps35
  go_wp2_with (first
    | (refine st_load29 (by rfl) rfl rfl hb1 ?_)
    | (go_at_call 36; refine hc.mono ?_; rintro e w1 ⟨rfl, hb2⟩))
  go_ret
  exact ⟨rfl, hB0.trans (hb2.mono hB0.size)⟩
/-- What Reap returns: the table, the number, the status and the error. -/
def reapS (t : Nat → Pr) (n : Int) : (Nat → Pr) × Int × Int × Int :=
  if n < 1 then (tz, 0, 0, 25)
  else if 0 ≤ scan (childP t n true) 0 8 then (updT t (scan (childP t n true) 0 8).toNat zp, (t (scan (childP t n true) 0 8).toNat).f 0, (t (scan (childP t n true) 0 8).toNat).f 27, 0)
  else if 0 ≤ scan (childP t n false) 0 8 then (tz, 0, 0, 20) else (tz, 0, 0, 25)
noncomputable def tup4 (x : (Nat → Pr) × Int × Int × Int) : Value := .tuple #[.agg (tcs x.1), .int .i64 x.2.1, .int .i64 x.2.2.1, .int .i64 x.2.2.2]
theorem ret4 {x y : (Nat → Pr) × Int × Int × Int} (h : x = y) : Ending.returned (tup4 x) = .returned (tup4 y) := by rw [h]
set_option maxHeartbeats 4000000 in
theorem reap_v (t : Nat → Pr) (n : Int) (w : World) : Calls Try.prog 16 #[.agg (tcs t), .int .i64 n] w fun e w' => e = .returned (tup4 (reapS t n)) ∧ Below w.heap.size w w' := by
  have hk0 := ((Blk.new w t).alloc (.cells #[.int .i64 n] 3)).alloc (.cells (tcs tz) 29)
  have hz0 : Blk (((w.alloc (.cells (tcs t) 29)).alloc (.cells #[.int .i64 n] 3)).alloc (.cells (tcs tz) 29)) (w.heap.size + 1 + 1) tz := by
    have := Blk.new ((w.alloc (.cells (tcs t) 29)).alloc (.cells #[.int .i64 n] 3)) tz
    rw [show ((w.alloc (.cells (tcs t) 29)).alloc (.cells #[.int .i64 n] 3)).heap.size = w.heap.size + 1 + 1 by simp] at this
    exact this
  have hB0 := ((Below.alloc (Below.refl w.heap.size w) (Nat.le_refl _) (.cells (tcs t) 29)).alloc (by simp) (.cells #[.int .i64 n] 3)).alloc (by simp; omega) (.cells (tcs tz) 29)
  have hp0 : (((w.alloc (.cells (tcs t) 29)).alloc (.cells #[.int .i64 n] 3)).alloc (.cells (tcs tz) 29)).cell? ⟨w.heap.size + 1, 0, none⟩ = some (.int .i64 n) :=
    cell_kept (cell_of_row _ _ _ _ _ _ (heap_alloc2_new _ _ _)) _
  have hc1 := child_v t n true w.heap.size (w.heap.size + 1) _ hk0 hp0
  have hB0 := hidI hB0
  by_cases hn : n < 1
  · have HS : Hid (reapS t n = (tz, 0, 0, 25)) := if_pos hn
    clear hc1 hp0
    go_enter Try.func16, Try.ntmps16
    go_wp2_with (first
      | (refine st_alloc29 (by rfl) rfl ?_)
      | (refine st_build29 (by rfl) rfl ?_)
      | (refine st_store29 (by rfl) rfl rfl rfl hz0 ?_; intro w2 hz2 hu2))
    exact bodyPost_ret (v := tup4 (tz, 0, 0, 25)) (by simp [results, Try.results16, asAddr]; rw [hz2.loadv]; rfl) rfl ⟨ret4 HS.out.symm, hB0.out.trans (hu2.below (by omega))⟩
  · have hd : decide (n < 1) = false := by simpa using hn
    have HN := hidI hn; clear hn
    cases hz : decide (0 ≤ scan (childP t n true) 0 8)
    · have hneg : ¬ 0 ≤ scan (childP t n true) 0 8 := by simpa using hz
      have hm1 := scan_neg _ _ _ hneg
      have HG := hidI hneg; clear hneg
      rw [hm1] at hc1
      have HM := hidI hm1; clear hm1 hz
      cases hv : decide (0 ≤ scan (childP t n false) 0 8)
      · have hneg2 : ¬ 0 ≤ scan (childP t n false) 0 8 := by simpa using hv
        have hm2 := scan_neg _ _ _ hneg2
        have HS : Hid (reapS t n = (tz, 0, 0, 25)) := by unfold Hid reapS; rw [if_neg HN.out, if_neg HG.out, if_neg hneg2]
        clear hneg2 hv
        go_enter Try.func16, Try.ntmps16
        go_wp2_with (first
          | (refine st_alloc29 (by rfl) rfl ?_)
          | (go_at_call 35; refine hc1.mono ?_; rintro e w1 ⟨rfl, hb1⟩; have hk1 := hk0.below hb1 hk0.lt; have hz1 := hz0.below hb1 hz0.lt; have hp1 := (hb1.cell (World.block_lt_of_cell? _ _ hp0)).trans hp0; have hc2 := child_v t n false _ _ w1 hk1 hp1; rw [hm2] at hc2; clear hc1 hp1 hp0 hk1 hz0 hk0 hm2)
          | (go_at_call 35; refine hc2.mono ?_; rintro e w3 ⟨rfl, hb3⟩; have hz3 := hz1.below hb3 hz1.lt)
          | (refine st_build29 (by rfl) rfl ?_)
          | (refine st_store29 (by rfl) rfl rfl rfl hz3 ?_; intro w2 hz2 hu2))
        exact bodyPost_ret (v := tup4 (tz, 0, 0, 25)) (by simp [results, Try.results16, asAddr]; rw [hz2.loadv]; rfl) rfl ⟨ret4 HS.out.symm, by
          have h1 := hB0.out.trans (hb1.mono hB0.out.size)
          exact (h1.trans (hb3.mono h1.size)).trans (hu2.below (by omega))⟩
      · have hpos2 : 0 ≤ scan (childP t n false) 0 8 := by simpa using hv
        have HS : Hid (reapS t n = (tz, 0, 0, 20)) := by unfold Hid reapS; rw [if_neg HN.out, if_neg HG.out, if_pos hpos2]
        obtain ⟨i2, hi2, hm2, _⟩ := scan_ge _ _ _ hpos2
        clear hpos2 hv
        have hi0 : (0 : Int) ≤ i2 := by omega
        go_enter Try.func16, Try.ntmps16
        go_wp2_with (first
          | (refine st_alloc29 (by rfl) rfl ?_)
          | (go_at_call 35; refine hc1.mono ?_; rintro e w1 ⟨rfl, hb1⟩; have hk1 := hk0.below hb1 hk0.lt; have hz1 := hz0.below hb1 hz0.lt; have hp1 := (hb1.cell (World.block_lt_of_cell? _ _ hp0)).trans hp0; have hc2 := child_v t n false _ _ w1 hk1 hp1; rw [hm2] at hc2; clear hc1 hp1 hp0 hk1 hz0 hk0 hm2)
          | (go_at_call 35; refine hc2.mono ?_; rintro e w3 ⟨rfl, hb3⟩; have hz3 := hz1.below hb3 hz1.lt)
          | (refine st_build29 (by rfl) rfl ?_)
          | (refine st_store29 (by rfl) rfl rfl rfl hz3 ?_; intro w2 hz2 hu2))
        exact bodyPost_ret (v := tup4 (tz, 0, 0, 20)) (by simp [results, Try.results16, asAddr]; rw [hz2.loadv]; rfl) rfl ⟨ret4 HS.out.symm, by
          have h1 := hB0.out.trans (hb1.mono hB0.out.size)
          exact (h1.trans (hb3.mono h1.size)).trans (hu2.below (by omega))⟩
    · have hpos : 0 ≤ scan (childP t n true) 0 8 := by simpa using hz
      obtain ⟨i, hi8, hm1, _⟩ := scan_ge _ _ _ hpos
      have HS : Hid (reapS t n = (updT t i zp, (t i).f 0, (t i).f 27, 0)) := by unfold Hid reapS; rw [if_neg HN.out, if_pos hpos, hm1]; simp
      clear hpos hz
      rw [hm1] at hc1
      clear hm1
      have hi0 : (0 : Int) ≤ i := by omega
      have hi : (i : Int) < 8 := by omega
      go_enter Try.func16, Try.ntmps16
      go_wp2_with (first
        | (refine st_alloc29 (by rfl) rfl ?_)
        | (go_at_call 35; refine hc1.mono ?_; rintro e w1 ⟨rfl, hb1⟩; have hk1 := hk0.below hb1 hk0.lt; have hz1 := hz0.below hb1 hz0.lt; have h1 := hidI (hB0.out.trans (hb1.mono hB0.out.size)); have hlt := hz1.lt; clear hc1 hp0 hz0 hk0 hb1)
        | (refine st_load28 (by rfl) rfl rfl hk1 hi8 ?_)
        | (refine st_alloc28 (by rfl) rfl ?_; have hk2 := hk1.alloc (.cells (pcs zp) 28); have hz2 := hz1.alloc (.cells (pcs zp) 28); have hq2 := PBlk.new w1 zp; have h2 := hidI (h1.out.alloc h1.out.size (.cells (pcs zp) 28)); clear hk1 hz1 h1)
        | (refine st_pstore28 (by rfl) rfl rfl rfl hq2 ?_; intro w3 hq3 hu3; have hk3 := hu3.blk hk2 (by omega); have hz3 := hu3.blk hz2 (by omega); have h3 := hidI (h2.out.trans (hu3.below (by omega))); clear hk2 hz2 hq2 h2 hu3)
        | (refine st_build28 (by rfl) rfl ?_)
        | (refine st_store28 (by rfl) rfl rfl rfl hk3 hi8 ?_; intro w4 hk4 hu4; have hq4 := hu4.pblk hq3 (by omega); have hz4 := hu4.blk hz3 (by omega); have h4 := hidI (h3.out.trans (hu4.below (by omega))); clear hk3 hz3 hq3 h3 hu4))
      have hS0 := And.intro hk4.drew (And.intro (show PBlk w4.drew w1.heap.size (t i) from hq4) (And.intro (⟨tz, hz4.drew⟩ : ∃ tt, Blk w4.drew (w.heap.size + 1 + 1) tt) h4.out.drew))
      clear hk4 hq4 hz4 h4
      generalize w1.heap.size = b10 at *
      refine wp_region_held_drew (S := fun wh => Blk wh w.heap.size (updT t i zp) ∧ PBlk wh b10 (t i) ∧ (∃ tt, Blk wh (w.heap.size + 1 + 1) tt) ∧ Below w.heap.size w wh) (by kernel_rfl) (hS0) (fun hHeld => ?_)
      show wpAnyH _ _ _ _ _ (8 + 1) #[false, false, false, false, false, false, false, false, false] _ _
      refine wpAnyH_take (i := 0) (v := .agg (tcs (updT t i zp))) rfl (by kernel_rfl) (by kernel_rfl) (by kernel_rfl) (fun _ _ _ h => h) (yieldsIf_row (by rfl) rfl rfl (fun wh hS => hS.1.whole) Try.underlying29 rfl (info29l _)) hHeld ?_
      show wpAnyH _ _ _ _ _ _ _ (Act.put _ (some 25) _) _
      simp only [Act.put, List.setIfInBounds_toArray, List.set_cons_zero, List.set_cons_succ]
      refine wpAnyH_take (i := 1) (v := .pointer (some ⟨b10, 0, none⟩)) rfl (by kernel_rfl) (by kernel_rfl) (by kernel_rfl) (fun _ _ _ h => h) (Or.inl ⟨by rfl, fun _ _ => rfl⟩) hHeld ?_
      show wpAnyH _ _ _ _ _ _ _ (Act.put _ (some 26) _) _
      simp only [Act.put, List.setIfInBounds_toArray, List.set_cons_zero, List.set_cons_succ]
      refine wpAnyH_take (i := 2) (v := .int .i64 ((t i).f 0)) rfl (by kernel_rfl) (by kernel_rfl) (by kernel_rfl) (fun _ _ _ h => h) (yieldsIf_cell (by rfl) rfl rfl (fun wh hS => hS.2.1.int 0 (by decide) (by decide)) isInt3) hHeld ?_
      show wpAnyH _ _ _ _ _ _ _ (Act.put _ (some 27) _) _
      simp only [Act.put, List.setIfInBounds_toArray, List.set_cons_zero, List.set_cons_succ]
      refine wpAnyH_take (i := 3) (v := .pointer (some ⟨b10, 27, none⟩)) rfl (by kernel_rfl) (by kernel_rfl) (by kernel_rfl) (fun _ _ _ h => h) (Or.inl ⟨by rfl, fun _ _ => rfl⟩) hHeld ?_
      show wpAnyH _ _ _ _ _ _ _ (Act.put _ (some 28) _) _
      simp only [Act.put, List.setIfInBounds_toArray, List.set_cons_zero, List.set_cons_succ]
      refine wpAnyH_take (i := 4) (v := .int .i64 ((t i).f 27)) rfl (by kernel_rfl) (by kernel_rfl) (by kernel_rfl) (fun _ _ _ h => h) (yieldsIf_cell (by rfl) rfl rfl (fun wh hS => hS.2.1.int 27 (by decide) (by decide)) isInt3) hHeld ?_
      show wpAnyH _ _ _ _ _ _ _ (Act.put _ (some 29) _) _
      simp only [Act.put, List.setIfInBounds_toArray, List.set_cons_zero, List.set_cons_succ]
      refine wpAnyH_all (rs := [5]) (by kernel_rfl) (by simp) (fun i hi' => ?_)
      obtain rfl : i = 5 := by simpa using hi'
      clear hi'
      obtain ⟨s1, s2, ⟨tt, s3⟩, s4⟩ := hHeld
      refine draw_store29 _ (.tmp 4) (.tmp 25) _ tt (updT t i zp) rfl (by rfl) rfl rfl rfl s3 (fun w9 hst hu9 => ?_)
      have hHeld := And.intro (hu9.blk s1 (by omega)) (And.intro (hu9.pblk s2 (by omega)) (And.intro (⟨_, hst⟩ : ∃ tt, Blk w9 (w.heap.size + 1 + 1) tt) (s4.trans (hu9.below (by omega)))))
      refine ⟨hHeld, ?_⟩
      refine wpAnyH_take (i := 6) (v := .int .i64 ((t i).f 0)) rfl (by kernel_rfl) (by kernel_rfl) (by kernel_rfl) (fun _ _ _ h => h) (Or.inl ⟨by rfl, fun _ _ => rfl⟩) hHeld ?_
      show wpAnyH _ _ _ _ _ _ _ (Act.put _ (some 5) _) _
      simp only [Act.put, List.setIfInBounds_toArray, List.set_cons_zero, List.set_cons_succ]
      refine wpAnyH_take (i := 7) (v := .int .i64 ((t i).f 27)) rfl (by kernel_rfl) (by kernel_rfl) (by kernel_rfl) (fun _ _ _ h => h) (Or.inl ⟨by rfl, fun _ _ => rfl⟩) hHeld ?_
      show wpAnyH _ _ _ _ _ _ _ (Act.put _ (some 6) _) _
      simp only [Act.put, List.setIfInBounds_toArray, List.set_cons_zero, List.set_cons_succ]
      refine wpAnyH_take (i := 8) (v := .int .i64 0) rfl (by kernel_rfl) (by kernel_rfl) (by kernel_rfl) (fun _ _ _ h => h) (Or.inl ⟨by rfl, fun _ _ => rfl⟩) hHeld ?_
      show wpAnyH _ _ _ _ _ _ _ (Act.put _ (some 7) _) _
      simp only [Act.put, List.setIfInBounds_toArray, List.set_cons_zero, List.set_cons_succ]
      refine wpAnyH_done (by kernel_rfl) ?_ _
      go_wp2
      exact bodyPost_ret (v := tup4 (updT t i zp, (t i).f 0, (t i).f 27, 0)) (by simp [results, Try.results16, asAddr]; rw [hst.loadv]; rfl) rfl ⟨ret4 HS.out.symm, hHeld.2.2.2⟩
end Go.Proofs.Ytnnknhcdnklalaa.A
