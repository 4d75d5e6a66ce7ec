/- mmu.Translate at a unit that is off, and radix.Format(64, 8): what each call does. Conditions: the unit's other cells are one cell each (trans_v). -/
import Derived.Test.YtmlhdepemeodkaaAx0
import Derived.LoopN
import Derived.Deep.MidRow
import Derived.Deep.RegionHeld
namespace Go.Proofs.Ytmlhdepemeodkaa.A
open Go.RowKit Go.Proofs.YtmlhdepemeodkaaW.PrintWords Go.Proofs.YtmlhdepemeodkaaW.PrintLast Go.Proofs.YtmlhdepemeodkaaW.PrintMore
set_option linter.unusedSimpArgs false
set_option linter.unusedVariables false
theorem zv27 : ∃ zs : List Value, (∀ w, Sem.run Try.prog (zeroValue 27) w = .ok (.agg zs.toArray) w) ∧ zs.length = 67 ∧ zs[0]? = some (.bool false) ∧ (∀ v ∈ zs, v.oneCell' = true) :=
  ⟨[.bool false] ++ (List.replicate 16 [Value.int .i64 0, .int .i64 0, .int .i64 0, .bool false]).flatten ++ [.int .i64 0, .int .i64 0], fun w => by kernel_rfl, by kernel_rfl, by kernel_rfl, by decide +kernel⟩
theorem alloc_last (w : World) (o : Obj) : (w.alloc o).heap[w.heap.size]? = some o := by unfold World.alloc; simp only [Array.size_push, Array.getElem?_push_size]
theorem bel_set {B : Nat} {a : World} (b : Nat) (hb : B ≤ b) : ∀ (vs : List Value) (o : Nat) {w : World}, Below B a w → Below B a (w.setCells b o vs)
  | [], _, _, h => h
  | v :: r, o, _, h => bel_set b hb r (o + 1) (h.setCell (p := ⟨b, o, none⟩) hb v)
theorem lies (w : World) (cs zs : List Value) : ((w.alloc (Obj.cells cs.toArray 27)).alloc (Obj.cells zs.toArray 27)).rangeAt w.heap.size 0 cs := World.rangeAt_alloc (fun j v hv => by
  rw [cell_of_row _ _ _ _ _ _ (alloc_last w _)]; simpa using hv) _
theorem room (w : World) (cs zs : List Value) (n : Nat) (hz : zs.length = n) : ((w.alloc (Obj.cells cs.toArray 27)).alloc (Obj.cells zs.toArray 27)).there (w.heap.size + 1) 0 n := fun j hj => by
  have hs : (w.alloc (Obj.cells cs.toArray 27)).heap.size = w.heap.size + 1 := by unfold World.alloc; simp only [Array.size_push]
  have hh := alloc_last (w.alloc (Obj.cells cs.toArray 27)) (Obj.cells zs.toArray 27)
  rw [hs] at hh
  refine ⟨?_, ?_⟩
  · rw [cell_of_row _ _ _ _ _ _ hh]
    have : 0 + j < zs.length := by omega
    rw [Array.getElem?_eq_getElem (by simpa using this)]; rfl
  · unfold World.frozen?; dsimp only; rw [hh]; simp
set_option maxHeartbeats 4000000 in
set_option maxRecDepth 100000 in
theorem trans_v (ct : List Value) (hl : ct.length = 66) (h1 : ∀ v ∈ ct, v.oneCell' = true) (w : World) : Calls Try.prog 19 #[.agg (.bool false :: ct).toArray, .int .i64 1, .int .i64 57344, .bool false] w fun e w' => e = .returned (.tuple #[.int .i64 253952, .agg (.bool false :: ct).toArray, .int .i64 0]) ∧ Below w.heap.size w w' := by
  obtain ⟨zs, hz, hzl, hz0, hz1⟩ := zv27
  have hbits : Go.bits .and .i64 57344 65535 = 57344 := by decide +kernel
  have hi : (Try.prog.info? 27).map (·.size) = some (Value.bool false :: ct).length := by rw [List.length_cons, hl]; kernel_rfl
  have hcs : (Value.bool false :: ct).toArray.all (·.oneCell') = true := all_oneCell_toArray (fun v hv => by
    rcases List.mem_cons.1 hv with rfl | hv
    · rfl
    · exact h1 v hv)
  have hR := lies w (.bool false :: ct) zs
  have hT := room w (.bool false :: ct) zs 67 hzl
  go_enter Try.func19, Try.ntmps19
  go_wp2
  refine wp_region_held_drew (S := fun w' => w'.rangeAt w.heap.size 0 (.bool false :: ct) ∧ w'.there (w.heap.size + 1) 0 67) (by kernel_rfl) ⟨(World.rangeAt_drew _ _ _ _).2 hR, (World.there_drew _ _ _ _).2 hT⟩ (fun hHeld => ?_)
  show wpAnyH _ _ _ _ _ (4 + 1) #[false, false, false, false, false] _ _
  refine wpAnyH_take (i := 0) (v := .int .i64 253952) rfl (by kernel_rfl) (by kernel_rfl) (by kernel_rfl) (fun _ _ _ h => h) (Or.inl ⟨by rfl, fun _ _ => rfl⟩) hHeld ?_
  show wpAnyH _ _ _ _ _ _ _ (Act.put _ (some 23) _) _
  simp only [Act.put, List.setIfInBounds_toArray, List.set_cons_zero, List.set_cons_succ]
  refine wpAnyH_take (i := 1) (v := .agg (.bool false :: ct).toArray) rfl (by kernel_rfl) (by kernel_rfl) (by kernel_rfl) (fun _ _ _ h => h) (yieldsIf_load_mid (by rfl) 27 (.tmp 4) rfl w.heap.size 0 rfl _ _ (fun _ h => h.1) Try.underlying27 rfl hi) hHeld ?_
  show wpAnyH _ _ _ _ _ _ _ (Act.put _ (some 24) _) _
  simp only [Act.put, List.setIfInBounds_toArray, List.set_cons_zero, List.set_cons_succ]
  refine wpAnyH_take (i := 2) (v := .int .i64 253952) rfl (by kernel_rfl) (by kernel_rfl) (by kernel_rfl) (fun _ _ _ h => h) (Or.inl ⟨by rfl, fun _ _ => rfl⟩) hHeld ?_
  show wpAnyH _ _ _ _ _ _ _ (Act.put _ (some 8) _) _
  simp only [Act.put, List.setIfInBounds_toArray, List.set_cons_zero, List.set_cons_succ]
  refine wpAnyH_all (rs := [3]) (by kernel_rfl) (by simp) (fun i hi' => ?_)
  obtain rfl : i = 3 := by simpa using hi'
  refine wpOp_step rfl (fun K hK => ?_)
  rw [if_pos (by rfl)]
  refine wp_store_mid 27 (.tmp 9) (.tmp 24) rfl (w.heap.size + 1) 0 (.bool false :: ct).toArray rfl rfl (by simpa [hl] using hHeld.2) (by simpa [hl] using hi) hcs (hK _ _ ⟨⟨World.rangeAt_setCells_apart hHeld.1 _ _ _ (by omega), World.there_setCells hHeld.2 _ _ _⟩, ?_⟩)
  have hBack := World.rangeAt_setCells_same (((w.alloc (Obj.cells (Value.bool false :: ct).toArray 27)).alloc (Obj.cells zs.toArray 27)).drew) (w.heap.size + 1) 0 (.bool false :: ct) (by simpa [hl] using hHeld.2)
  simp only [Act.put, List.setIfInBounds_toArray, List.set_cons_zero, List.set_cons_succ]
  refine wpAnyH_take (i := 4) (v := .int .i64 0) rfl (by kernel_rfl) (by kernel_rfl) (by kernel_rfl) (fun _ _ _ h => h) (Or.inl ⟨by rfl, fun _ _ => rfl⟩) ⟨World.rangeAt_setCells_apart hHeld.1 _ _ _ (by omega), World.there_setCells hHeld.2 _ _ _⟩ ?_
  show wpAnyH _ _ _ _ _ _ _ (Act.put _ (some 10) _) _
  simp only [Act.put, List.setIfInBounds_toArray, List.set_cons_zero, List.set_cons_succ]
  refine wpAnyH_done (by kernel_rfl) ?_ _
  have hlv := run_loadVar_mid (P := Try.prog) _ (w.heap.size + 1) 0 27 _ _ hBack Try.underlying27 rfl hi
  have hB : Below w.heap.size w ((((w.alloc (Obj.cells (Value.bool false :: ct).toArray 27)).alloc (Obj.cells zs.toArray 27)).drew).setCells (w.heap.size + 1) 0 (Value.bool false :: ct)) := by
    exact bel_set _ (Nat.le_succ _) _ _ (Below.drew (((Below.refl _ w).alloc (Nat.le_refl _) _).alloc (by simp) _))
  clear hHeld hBack hR hT
  generalize ((((w.alloc (Obj.cells (Value.bool false :: ct).toArray 27)).alloc (Obj.cells zs.toArray 27)).drew).setCells (w.heap.size + 1) 0 (Value.bool false :: ct)) = W at *
  go_wp2

  exact bodyPost_ret (v := .tuple #[.int .i64 253952, .agg (.bool false :: ct).toArray, .int .i64 0]) (by simp [results, Try.results19, asAddr]; rw [hlv]; rfl) rfl ⟨rfl, hB⟩
set_option maxHeartbeats 4000000 in
set_option maxRecDepth 100000 in
theorem format_v (w : World) : Calls Try.prog 20 #[.int .i64 64, .int .i64 8] w fun e w' => e = .returned (.string ⟨#[49, 48, 48]⟩) ∧ Drawn0 w w' := by
  go_enter Try.func20, Try.ntmps20
  go_wp2
  refine wp_loop_rounds 3 ?_
  rw [rounds_succ]; go_wp2
  rw [rounds_succ]; go_wp2
  rw [rounds_succ]; go_wp2
  all_goals exact bodyPost_ret (v := .string ⟨#[49, 48, 48]⟩) (by simp [results, Try.results20, go_sem]; decide +kernel) rfl ⟨rfl, Drawn0.refl _⟩
def zt : List Value := (List.replicate 16 [Value.int .i64 0, .int .i64 0, .int .i64 0, .bool false]).flatten ++ [.int .i64 0, .int .i64 0]
theorem build27 (w : World) : Sem.run Try.prog (zeroValue 27) w = .ok (.agg (.bool false :: zt).toArray) w := by kernel_rfl
theorem zt_len : zt.length = 66 := by kernel_rfl
theorem zt_one : ∀ v ∈ zt, v.oneCell' = true := by decide +kernel
/-- Storing the zero unit into a block of the call's own: other blocks are as they were. -/
theorem store27 {ops : Array Oper} {o : Oper} {rest : List Oper} {a : Act} {Q : Exit → Act → World → Prop} {w0 W : World} {g : Nat} (hbox : W.heap[g]? = some (.cells (Value.bool false :: zt).toArray 27 (0, 0))) (hge : w0.heap.size ≤ g) (HB : Below w0.heap.size w0 W)
    (ho : o.op = .store 27 (.tmp 8) (.tmp 26)) (hgd : o.guard = none) (hx : a.eval (.tmp 8) = .pointer (some ⟨g, 0, none⟩)) (hy : a.eval (.tmp 26) = .agg (Value.bool false :: zt).toArray)
    (h : ∀ W', Below w0.heap.size w0 W' → (∀ b, b ≠ g → W'.heap[b]? = W.heap[b]?) → wpList Try.prog ops Q rest (a.put o.dst undef) W') : wpList Try.prog ops Q (o :: rest) a W := by
  refine wpList_store_mid hgd 27 (.tmp 8) (.tmp 26) ho g 0 (Value.bool false :: zt).toArray hx hy (fun j hj => ⟨?_, ?_⟩) (by kernel_rfl) (by decide +kernel) (h _ (bel_set _ hge _ _ HB) (fun b hb => Go.Proofs.YtmlhdepemeodkaaW.PrintWords.setCells_far _ _ b hb))
  · rw [cell_of_row _ _ _ _ _ _ hbox, Array.getElem?_eq_getElem (by simpa using hj)]; rfl
  · unfold World.frozen?; dsimp only; rw [hbox]; simp
end Go.Proofs.Ytmlhdepemeodkaa.A
