/- Next, Free and Find of the program: what each call returns. No condition. -/
import Derived.Test.YtnnknhcdnklalaaF2
import Derived.OneCell
namespace Go.Proofs.Ytnnknhcdnklalaa.A
open Go Go.RowKit
set_option linter.unusedSimpArgs false
set_option linter.unusedVariables false
theorem cf38 (args : Array Value) (w : World) : Sem.run Try.prog (callFunc 38 args) w = .ok (.enter 38 args) w := by kernel_rfl
theorem cf39 (args : Array Value) (w : World) : Sem.run Try.prog (callFunc 39 args) w = .ok (.enter 39 args) w := by kernel_rfl
theorem cf40 (args : Array Value) (w : World) : Sem.run Try.prog (callFunc 40 args) w = .ok (.enter 40 args) w := by kernel_rfl
theorem cf42 (args : Array Value) (w : World) : Sem.run Try.prog (callFunc 42 args) w = .ok (.enter 42 args) w := by kernel_rfl
theorem cf37 (args : Array Value) (w : World) : Sem.run Try.prog (callFunc 37 args) w = .ok (.enter 37 args) w := by kernel_rfl
theorem bel1 {w : World} {o : Obj} {w' : World} (h : w' = w.alloc o) : Below w.heap.size w w' := by subst h; exact (Below.refl _ _).alloc (Nat.le_refl _) _
theorem next_v (t : Nat → Pr) (a : Int) (w : World) : Calls Try.prog 18 #[.agg (tcs t), .int .i64 a] w fun e w' => e = .returned (.int .i64 (scan (fun i => (t i).f 2 == 1) (start a) 8)) ∧ Below w.heap.size w w' := by
  have hwh := (Blk.new w t).whole
  have hb0 := Below.alloc (Below.refl w.heap.size w) (Nat.le_refl _) (.cells (tcs t) 29)
  have hc := first_v t a 38 #[] (fun i => (t i).f 2 == 1) (w.alloc (.cells (tcs t) 29)) cf38 (fun i w' _ _ => (cnext_v i (t i) w').mono fun e w'' h => ⟨h.1, bel1 h.2⟩)
  go_enter Try.func18, Try.ntmps18
  go_wp2_with (first | (refine wpList_load_mid rfl 29 (.tmp 2) rfl _ _ rfl (tcs t).toList _ hwh Try.underlying29 rfl (info29l _) ?_) | (go_at_call 36; refine hc.mono ?_; rintro e w1 ⟨rfl, hb1⟩))
  go_ret
  exact ⟨rfl, hb0.trans (hb1.mono hb0.size)⟩
theorem free_v (t : Nat → Pr) (w : World) : Calls Try.prog 21 #[.agg (tcs t)] w fun e w' => e = .returned (.int .i64 (scan (fun i => (t i).f 2 == 0) 0 8)) ∧ Below w.heap.size w w' := by
  have hwh := (Blk.new w t).whole
  have hb0 := Below.alloc (Below.refl w.heap.size w) (Nat.le_refl _) (.cells (tcs t) 29)
  have hc := first_v t (-1) 40 #[] (fun i => (t i).f 2 == 0) (w.alloc (.cells (tcs t) 29)) cf40 (fun i w' _ _ => (cfree_v i (t i) w').mono fun e w'' h => ⟨h.1, bel1 h.2⟩)
  go_enter Try.func21, Try.ntmps21
  go_wp2_with (first | (refine wpList_load_mid rfl 29 (.tmp 1) rfl _ _ rfl (tcs t).toList _ hwh Try.underlying29 rfl (info29l _) ?_) | (go_at_call 36; refine hc.mono ?_; rintro e w1 ⟨rfl, hb1⟩))
  go_ret
  exact ⟨rfl, hb0.trans (hb1.mono hb0.size)⟩
theorem find_v (t : Nat → Pr) (n : Int) (w : World) : Calls Try.prog 19 #[.agg (tcs t), .int .i64 n] w fun e w' => e = .returned (.int .i64 (scan (fun i => (t i).f 2 != 0 && (t i).f 0 == n) 0 8)) ∧ Below w.heap.size w w' := by
  have hwh := ((Blk.new w t).alloc (.cells #[.int .i64 n] 3)).whole
  have hb0 := (Below.alloc (Below.refl w.heap.size w) (Nat.le_refl _) (.cells (tcs t) 29)).alloc (by simp) (.cells #[.int .i64 n] 3)
  have hcell : ((w.alloc (.cells (tcs t) 29)).alloc (.cells #[.int .i64 n] 3)).cell? ⟨w.heap.size + 1, 0, none⟩ = some (.int .i64 n) := cell_of_row _ _ _ _ _ _ (heap_alloc2_new _ _ _)
  have hc := first_v t (-1) 39 #[.pointer (some ⟨w.heap.size + 1, 0, none⟩)] (fun i => (t i).f 2 != 0 && (t i).f 0 == n) ((w.alloc (.cells (tcs t) 29)).alloc (.cells #[.int .i64 n] 3)) cf39
    (fun i w' _ hb => (cfind_v i (t i) w' _ n (by rw [hb.cell (by simp)]; exact hcell)).mono fun e w'' h => ⟨h.1, bel1 h.2⟩)
  clear hcell
  go_enter Try.func19, Try.ntmps19
  go_wp2_with (first | (refine wpList_load_mid rfl 29 (.tmp 2) rfl _ _ rfl (tcs t).toList _ hwh Try.underlying29 rfl (info29l _) ?_) | (go_at_call 36; refine hc.mono ?_; rintro e w1 ⟨rfl, hb1⟩))
  go_ret
  exact ⟨rfl, hb0.trans (hb1.mono hb0.size)⟩
end Go.Proofs.Ytnnknhcdnklalaa.A
