-- Written by a program of this session (mp.py) over the kit's print.py, with proofs by hand for what the print does not take.
import Derived.Test.YtflblckegjobnaaDoorAx0
import Derived.Test.YtflblckegjobnaaDoorAx1
namespace Go.Proofs.YtflblckegjobnaaDoor.A
open Go.RowKit Go.Proofs.YtflblckegjobnaaDoorW.PrintWords Go.Proofs.YtflblckegjobnaaDoorW.PrintLast Go.Proofs.YtflblckegjobnaaDoorW.PrintMore
attribute [local go_sem] max2_int min2_int max_two min_two max_three min_three max_four min_four   -- for this text's walks alone
set_option linter.unusedVariables false
set_option linter.unusedSimpArgs false

/-! ### trap_Name: function 12 -/
def allNames : ByteArray := ⟨#[98, 117, 115, 32, 105, 108, 108, 101, 103, 97, 108, 32, 98, 112, 116, 32, 105, 111, 116, 32, 112, 111, 119, 101, 114, 32, 101, 109, 116, 32, 116, 114, 97, 112, 32, 109, 109, 117, 32, 112, 97, 114, 105, 116, 121]⟩
def nm : Nat → ByteArray
  | 0 => ⟨#[98, 117, 115]⟩ | 1 => ⟨#[105, 108, 108, 101, 103, 97, 108]⟩ | 2 => ⟨#[98, 112, 116]⟩ | 3 => ⟨#[105, 111, 116]⟩ | 4 => ⟨#[112, 111, 119, 101, 114]⟩ | 5 => ⟨#[101, 109, 116]⟩ | 6 => ⟨#[116, 114, 97, 112]⟩ | 7 => ⟨#[109, 109, 117]⟩ | 8 => ⟨#[112, 97, 114, 105, 116, 121]⟩ | _ => ⟨#[]⟩
theorem fields_v : (Lib.fields allNames.data.toList) = [[98, 117, 115], [105, 108, 108, 101, 103, 97, 108], [98, 112, 116], [105, 111, 116], [112, 111, 119, 101, 114], [101, 109, 116], [116, 114, 97, 112], [109, 109, 117], [112, 97, 114, 105, 116, 121]] := by decide +kernel
theorem fields_calls (w : World) (hS : Sz w) : Calls Tryd.prog 20 #[.string allNames] w fun e w' => e = .returned (.slice (some ⟨w.heap.size, 0, none⟩) 9 9) ∧ w' = w.alloc (.cells #[.string (nm 0), .string (nm 1), .string (nm 2), .string (nm 3), .string (nm 4), .string (nm 5), .string (nm 6), .string (nm 7), .string (nm 8)] 9) := by
  have h := Sh.strings_Fields_laid allNames w (by decide) (fun j b hj => (show ∀ b ∈ allNames.data.toList, b.toNat < 128 by decide +kernel) b (List.mem_of_getElem? hj)) hS.tab
  rw [fields_v] at h
  exact h
set_option maxHeartbeats 4000000 in
set_option maxRecDepth 100000 in
theorem name_at (i : Nat) (hi : i < 9) (w : World) (hS : Sz w) : Calls Tryd.prog 12 #[.int .i64 ((i : Int) + 1)] w fun e w' => e = .returned (.string (nm i)) ∧ Below w.heap.size w w' := by
  have hf := fields_calls w hS
  unfold allNames at hf
  match i, hi with
  | 0, _ =>
    go_enter Tryd.func12, Tryd.ntmps12
    go_wp2_with (first | (go_at_call 20; refine hf.mono ?_; rintro e w' ⟨rfl, rfl⟩) | go_in)
    exact bodyPost_ret (v := .string (nm 0)) (by simp [results, Tryd.results12, go_sem, nm]) rfl ⟨rfl, by repeat (first | exact Below.refl _ _ | apply below_alloc | apply below_set | apply below_drew1)⟩
  | 1, _ =>
    go_enter Tryd.func12, Tryd.ntmps12
    go_wp2_with (first | (go_at_call 20; refine hf.mono ?_; rintro e w' ⟨rfl, rfl⟩) | go_in)
    exact bodyPost_ret (v := .string (nm 1)) (by simp [results, Tryd.results12, go_sem, nm]) rfl ⟨rfl, by repeat (first | exact Below.refl _ _ | apply below_alloc | apply below_set | apply below_drew1)⟩
  | 2, _ =>
    go_enter Tryd.func12, Tryd.ntmps12
    go_wp2_with (first | (go_at_call 20; refine hf.mono ?_; rintro e w' ⟨rfl, rfl⟩) | go_in)
    exact bodyPost_ret (v := .string (nm 2)) (by simp [results, Tryd.results12, go_sem, nm]) rfl ⟨rfl, by repeat (first | exact Below.refl _ _ | apply below_alloc | apply below_set | apply below_drew1)⟩
  | 3, _ =>
    go_enter Tryd.func12, Tryd.ntmps12
    go_wp2_with (first | (go_at_call 20; refine hf.mono ?_; rintro e w' ⟨rfl, rfl⟩) | go_in)
    exact bodyPost_ret (v := .string (nm 3)) (by simp [results, Tryd.results12, go_sem, nm]) rfl ⟨rfl, by repeat (first | exact Below.refl _ _ | apply below_alloc | apply below_set | apply below_drew1)⟩
  | 4, _ =>
    go_enter Tryd.func12, Tryd.ntmps12
    go_wp2_with (first | (go_at_call 20; refine hf.mono ?_; rintro e w' ⟨rfl, rfl⟩) | go_in)
    exact bodyPost_ret (v := .string (nm 4)) (by simp [results, Tryd.results12, go_sem, nm]) rfl ⟨rfl, by repeat (first | exact Below.refl _ _ | apply below_alloc | apply below_set | apply below_drew1)⟩
  | 5, _ =>
    go_enter Tryd.func12, Tryd.ntmps12
    go_wp2_with (first | (go_at_call 20; refine hf.mono ?_; rintro e w' ⟨rfl, rfl⟩) | go_in)
    exact bodyPost_ret (v := .string (nm 5)) (by simp [results, Tryd.results12, go_sem, nm]) rfl ⟨rfl, by repeat (first | exact Below.refl _ _ | apply below_alloc | apply below_set | apply below_drew1)⟩
  | 6, _ =>
    go_enter Tryd.func12, Tryd.ntmps12
    go_wp2_with (first | (go_at_call 20; refine hf.mono ?_; rintro e w' ⟨rfl, rfl⟩) | go_in)
    exact bodyPost_ret (v := .string (nm 6)) (by simp [results, Tryd.results12, go_sem, nm]) rfl ⟨rfl, by repeat (first | exact Below.refl _ _ | apply below_alloc | apply below_set | apply below_drew1)⟩
  | 7, _ =>
    go_enter Tryd.func12, Tryd.ntmps12
    go_wp2_with (first | (go_at_call 20; refine hf.mono ?_; rintro e w' ⟨rfl, rfl⟩) | go_in)
    exact bodyPost_ret (v := .string (nm 7)) (by simp [results, Tryd.results12, go_sem, nm]) rfl ⟨rfl, by repeat (first | exact Below.refl _ _ | apply below_alloc | apply below_set | apply below_drew1)⟩
  | 8, _ =>
    go_enter Tryd.func12, Tryd.ntmps12
    go_wp2_with (first | (go_at_call 20; refine hf.mono ?_; rintro e w' ⟨rfl, rfl⟩) | go_in)
    exact bodyPost_ret (v := .string (nm 8)) (by simp [results, Tryd.results12, go_sem, nm]) rfl ⟨rfl, by repeat (first | exact Below.refl _ _ | apply below_alloc | apply below_set | apply below_drew1)⟩
theorem name_no (a0 : Int) (h : a0 < 1 ∨ 9 < a0) (w : World) : Calls Tryd.prog 12 #[.int .i64 a0] w fun e w' => e = .returned (.string ⟨#[]⟩) ∧ Below w.heap.size w w' := by
  by_cases h1 : 1 ≤ a0
  · have h2 : ¬ a0 ≤ 9 := by omega
    have d1 : decide (1 ≤ a0) = true := decide_eq_true h1
    have d2 : decide (a0 ≤ 9) = false := decide_eq_false h2
    go_enter Tryd.func12, Tryd.ntmps12
    go_wp2
    exact bodyPost_ret (v := .string ⟨#[]⟩) (by simp [results, Tryd.results12, go_sem]) rfl ⟨rfl, by repeat (first | exact Below.refl _ _ | apply below_alloc | apply below_set | apply below_drew1)⟩
  · have d1 : decide (1 ≤ a0) = false := decide_eq_false h1
    go_enter Tryd.func12, Tryd.ntmps12
    go_wp2
    exact bodyPost_ret (v := .string ⟨#[]⟩) (by simp [results, Tryd.results12, go_sem]) rfl ⟨rfl, by repeat (first | exact Below.refl _ _ | apply below_alloc | apply below_set | apply below_drew1)⟩
def trap_Name.f (a0 : Int) : Option ByteArray := if 1 ≤ a0 ∧ a0 ≤ 9 then some (nm (a0 - 1).toNat) else some ⟨#[]⟩
theorem trap_Name.calls (a0 : Int) (r : ByteArray) (w : World) (hS : Sz w) (h : trap_Name.f a0 = some r) :
    Calls Tryd.prog 12 #[.int .i64 a0] w fun e w' => e = .returned (.string r) ∧ Below w.heap.size w w' := by
  unfold trap_Name.f at h
  by_cases c : 1 ≤ a0 ∧ a0 ≤ 9
  · rw [if_pos c] at h
    obtain rfl := Option.some.inj h
    have e : a0 = (((a0 - 1).toNat : Nat) : Int) + 1 := by omega
    have := name_at (a0 - 1).toNat (by omega) w hS
    rw [← e] at this
    exact this
  · rw [if_neg c] at h
    obtain rfl := Option.some.inj h
    exact name_no a0 (by omega) w

/-! ### trap_Aborts: function 14 -/
def trap_Aborts.f (a0 : Int) : Option (Bool) := if a0 = 1 then (some true) else (if a0 = 2 then (some true) else (if a0 = 8 then (some true) else (if a0 = 9 then (some true) else (some false))))
set_option maxHeartbeats 8000000 in
set_option maxRecDepth 100000 in
theorem trap_Aborts.calls (a0 : Int) (r : Bool) (w : World) (h : trap_Aborts.f a0 = some r) :
    Calls Tryd.prog 14 #[.int .i64 a0] w fun e w' => e = .returned (.bool r) ∧ Drawn0 w w' := by
  have H : (if a0 = 1 then (some true) else (if a0 = 2 then (some true) else (if a0 = 8 then (some true) else (if a0 = 9 then (some true) else (some false))))) = some r := h
  clear h
  by_cases c2 : a0 = 1
  · rw [if_pos c2] at H
    have c2b0 : (a0 == 1) = true := beq_iff_eq.mpr c2
    have c2b1 : (a0 != 1) = false := bne_eq_false_iff_eq.mpr c2
    clear c2
    obtain rfl := Option.some.inj H
    go_enter Tryd.func14, Tryd.ntmps14
    go_wp2
    go_ret
    exact ⟨by first | rfl | (simp; done) | (simp [*]; done), by repeat (first | exact Drawn0.refl _ | apply Drawn0.step)⟩
  · rw [if_neg c2] at H
    have c2b0 : (a0 == 1) = false := beq_eq_false_iff_ne.mpr c2
    have c2b1 : (a0 != 1) = true := bne_iff_ne.mpr c2
    by_cases c3 : a0 = 2
    · rw [if_pos c3] at H
      have c3b0 : (a0 == 2) = true := beq_iff_eq.mpr c3
      have c3b1 : (a0 != 2) = false := bne_eq_false_iff_eq.mpr c3
      clear c3
      obtain rfl := Option.some.inj H
      go_enter Tryd.func14, Tryd.ntmps14
      go_wp2
      go_ret
      exact ⟨by first | rfl | (simp; done) | (simp [*]; done), by repeat (first | exact Drawn0.refl _ | apply Drawn0.step)⟩
    · rw [if_neg c3] at H
      have c3b0 : (a0 == 2) = false := beq_eq_false_iff_ne.mpr c3
      have c3b1 : (a0 != 2) = true := bne_iff_ne.mpr c3
      by_cases c4 : a0 = 8
      · rw [if_pos c4] at H
        have c4b0 : (a0 == 8) = true := beq_iff_eq.mpr c4
        have c4b1 : (a0 != 8) = false := bne_eq_false_iff_eq.mpr c4
        clear c4
        obtain rfl := Option.some.inj H
        go_enter Tryd.func14, Tryd.ntmps14
        go_wp2
        go_ret
        exact ⟨by first | rfl | (simp; done) | (simp [*]; done), by repeat (first | exact Drawn0.refl _ | apply Drawn0.step)⟩
      · rw [if_neg c4] at H
        have c4b0 : (a0 == 8) = false := beq_eq_false_iff_ne.mpr c4
        have c4b1 : (a0 != 8) = true := bne_iff_ne.mpr c4
        by_cases c5 : a0 = 9
        · rw [if_pos c5] at H
          have c5b0 : (a0 == 9) = true := beq_iff_eq.mpr c5
          have c5b1 : (a0 != 9) = false := bne_eq_false_iff_eq.mpr c5
          clear c5
          obtain rfl := Option.some.inj H
          go_enter Tryd.func14, Tryd.ntmps14
          go_wp2
          go_ret
          exact ⟨by first | rfl | (simp; done) | (simp [*]; done), by repeat (first | exact Drawn0.refl _ | apply Drawn0.step)⟩
        · rw [if_neg c5] at H
          have c5b0 : (a0 == 9) = false := beq_eq_false_iff_ne.mpr c5
          have c5b1 : (a0 != 9) = true := bne_iff_ne.mpr c5
          obtain rfl := Option.some.inj H
          go_enter Tryd.func14, Tryd.ntmps14
          go_wp2
          go_ret
          exact ⟨by first | rfl | (simp; done) | (simp [*]; done), by repeat (first | exact Drawn0.refl _ | apply Drawn0.step)⟩

/-! ### trap_Vectors: function 16 -/
def trap_Vectors.l0 : Nat → List Int → Int → Option (List Int)
  | 0, _, _ => none
  | k + 1, x1, x2 => (trap_known.f x2).bind fun t110 => (if t110 = true then ((trap_Vector.f x2).bind fun t111 => (if x1.length < 17592186044416 then (trap_Vectors.l0 k (x1 ++ [t111]) (wrap64 (x2 + 1))) else (none))) else (some x1))
def trap_Vectors.f (k : Nat)  : Option (List Int) := trap_Vectors.l0 k ([] : List Int) 1
theorem trap_Vectors.mono_l : ∀ k, (∀ y0 y1, LeO (trap_Vectors.l0 k y0 y1) (trap_Vectors.l0 (k + 1) y0 y1))
  | 0 => fun _ _ r h => by simp [trap_Vectors.l0] at h
  | k + 1 => by
    have ih0 := trap_Vectors.mono_l k
    · intro y0 y1
      unfold trap_Vectors.l0
      repeat' first
      | (with_reducible exact ih0 _ _)
      | (with_reducible exact LeO.refl _)
      | (with_reducible exact LeO.none _)
      | (with_reducible refine LeO.ite ?_ ?_)
      | (with_reducible refine LeO.bind ?_ (fun _ => ?_))
      | exact ih0 _ _
      | exact LeO.none _
      | refine LeO.ite ?_ ?_
      | refine LeO.bind ?_ (fun _ => ?_)
theorem trap_Vectors.mono : ∀ k, LeO (trap_Vectors.f k ) (trap_Vectors.f (k + 1) ) := by
  intro  k
  have ih0 := trap_Vectors.mono_l k
  unfold trap_Vectors.f
  repeat' first
      | (with_reducible exact ih0 _ _)
      | (with_reducible exact LeO.refl _)
      | (with_reducible exact LeO.none _)
      | (with_reducible refine LeO.ite ?_ ?_)
      | (with_reducible refine LeO.bind ?_ (fun _ => ?_))
      | exact ih0 _ _
      | exact LeO.none _
      | refine LeO.ite ?_ ?_
      | refine LeO.bind ?_ (fun _ => ?_)
set_option maxHeartbeats 8000000 in
set_option maxRecDepth 100000 in
theorem trap_Vectors.calls (k : Nat)  (r : List Int) (w : World) (h : trap_Vectors.f k  = some r) :
    Calls Tryd.prog 16 #[] w fun e w' => ∃ v0_ : Value, e = .returned (v0_) ∧ Kd.R (Kd.int .i64) 3 w' w.heap.size (fun _ => True) v0_ r ∧ Below w.heap.size w w' := by
  have HB := Aside0.mk (Below.refl w.heap.size w)
  have H : (trap_Vectors.l0 k ([] : List Int) 1) = some r := h
  clear h
  have H' := Aside0.mk H
  clear H
  go_enter Tryd.func16, Tryd.ntmps16
  go_wp2
  go_loopg [1, 2] k (fun kq v1 v2 w' => ∃ (x1_1 : List Int) (x2_1 : Int), v2 = .int .i64 x2_1 ∧ Aside0 (trap_Vectors.l0 kq x1_1 x2_1 = some r) ∧ Aside0 (kq ≤ k) ∧ Aside0 (Kd.R (Kd.int .i64) 3 w' w.heap.size (fun _ => True) v1 x1_1) ∧ Aside0 (Below w.heap.size w w'))
  case atStart => exact ⟨(([] : List Int)), (1), (by first | rfl | (simp; done) | (simp [*]; done)), H', ⟨Nat.le_refl _⟩, ⟨by first | exact Kd.R_nil _ _ _ _ _ | exact Kd.N_nil _ _ _ _ _ | exact Kd.V_nil _ _ _ _ _ | exact Kd.Q_nil _ _ _ _ _ | exact Kd.S_nil _ _ _ _ _⟩, ⟨by repeat (first | (with_reducible first | exact HB.out | apply below_alloc | apply pw_below_drewN | apply below_drew1) | exact HB.out)⟩⟩
  case round =>
    clear H'
    obtain ⟨x1_1, x2_1, rfl, HA, HK1, HO_1, HB⟩ := hrel
    cases gk with
    | zero => exact absurd HA.out (by simp [trap_Vectors.l0])
    | succ k1 =>
      have H := HA.out
      clear HA
      simp only [trap_Vectors.l0] at H
      replace H := Option.bind_eq_some_iff.mp H
      obtain ⟨t110, A10, H⟩ := H
      replace H : (if t110 = true then ((trap_Vector.f x2_1).bind fun t111 => (if x1_1.length < 17592186044416 then (trap_Vectors.l0 k1 (x1_1 ++ [t111]) (wrap64 (x2_1 + 1))) else (none))) else (some x1_1)) = some r := H
      have A1 := Aside0.mk A10
      clear A10
      by_cases c2 : t110 = true
      · subst c2
        have H1 : ((trap_Vector.f x2_1).bind fun t111 => (if x1_1.length < 17592186044416 then (trap_Vectors.l0 k1 (x1_1 ++ [t111]) (wrap64 (x2_1 + 1))) else (none))) = some r := by rw [if_pos rfl] at H; exact H
        clear H
        have H := H1
        clear H1
        replace H := Option.bind_eq_some_iff.mp H
        obtain ⟨t111, A30, H⟩ := H
        replace H : (if x1_1.length < 17592186044416 then (trap_Vectors.l0 k1 (x1_1 ++ [t111]) (wrap64 (x2_1 + 1))) else (none)) = some r := H
        have A3 := Aside0.mk A30
        clear A30
        by_cases c4 : x1_1.length < 17592186044416
        · rw [if_pos c4] at H
          have LMc4 := Aside0.mk c4
          clear c4
          obtain ⟨y112, hy112⟩ : ∃ y_ : List Int, y_ = (x1_1 ++ [t111]) := ⟨_, rfl⟩
          replace H : (trap_Vectors.l0 k1 y112 (wrap64 (x2_1 + 1))) = some r := by first | (rw [hy112]; with_reducible exact H) | (have H2_ := (Option.bind_some _ _).symm.trans H; rw [hy112]; with_reducible exact H2_) | (have H2_ := (Option.bind_some _ _).symm.trans H; with_reducible exact H2_) | with_reducible exact H | (rw [hy112]; exact H) | exact H
          have Ny112 := Aside0.mk hy112
          clear hy112
          have H' := Aside0.mk H
          clear H
          go_wp2_with (first | ((with_reducible refine gate_callee (f := 18) rfl ?_); refine goesL_ (some 4) rfl rfl Tryd.func18 (by kernel_rfl) rfl #[.int .i64 x2_1] rfl (by (try simp only [List.map_toArray, List.map_cons, List.map_nil]); first | done | rfl | (simp only [List.length_drop, List.length_take]; rfl)) ?_; (with_reducible refine (trap_known.calls x2_1 true _ A1.out).mono ?_); rintro e w' ⟨rfl, ⟨nd, rfl⟩⟩; refine ⟨_, rfl, ?_⟩) | ((with_reducible refine gate_callee (f := 9) rfl ?_); refine goesL_ (some 9) rfl rfl Tryd.func9 (by kernel_rfl) rfl #[.int .i64 x2_1] rfl (by (try simp only [List.map_toArray, List.map_cons, List.map_nil]); first | done | rfl | (simp only [List.length_drop, List.length_take]; rfl)) ?_; (with_reducible refine (trap_Vector.calls x2_1 t111 _ A3.out).mono ?_); rintro e w' ⟨rfl, ⟨nd, rfl⟩⟩; refine ⟨_, rfl, ?_⟩) | ((with_reducible refine gate_builtin (b := .append) (xs := #[.tmp 7, .tmp 10]) rfl ?_); at_builtin; refine Kd.R_append (Kd.int .i64) (w0 := w) w.heap.size rfl (.tmp 7) (.tmp 10) 31 3 (.int .i64 0) 8 rfl Tryd.underlying31 info3 rfl (by decide) (by omega) u1 x1_1 t111 [.int .i64 t111] (fun _ => True) (fun _ => False) rfl rfl ?aP (fun _ hk => hk.elim) ?aF ?aO ?aB ?aS ?aL ?_; (case aP => exact rfl); (case aB => exact (by repeat (first | (with_reducible first | exact HB.out | apply below_alloc | apply pw_below_drewN | apply below_drew1) | exact HB.out))); (case aF => exact (fun _ _ => trivial)); (case aO => exact (by (with_reducible repeat (first | apply Kd.R_alloc | apply Kd.R_drewN | apply Kd.R_drew)); exact HO_1.out)); (case aS => exact (below_size (by repeat (first | (with_reducible first | exact HB.out | apply below_alloc | apply pw_below_drewN | apply below_drew1) | exact HB.out)))); (case aL => have := LMc4.out; omega); intro v113 w5 ho hb hg hat; rw [← Ny112.out] at ho; have n0_ := Aside0.mk (hb); have n1_ := Aside0.mk (ho); clear HB; clear HO_1; have HB := n0_; have HO114 := n1_; clear n0_ n1_; clear ho hb hg hat))
          go_roundg k1
          case measure => have := HK1.out; omega
          case rel => exact ⟨(y112), (wrap64 (x2_1 + 1)), (by first | rfl | (simp; done) | (simp [*]; done)), H', ⟨by have := HK1.out; omega⟩, ⟨by (with_reducible repeat (first | apply Kd.R_alloc | apply Kd.R_drewN | apply Kd.R_drew)); exact HO114.out⟩, ⟨by repeat (first | (with_reducible first | exact HB.out | apply below_alloc | apply pw_below_drewN | apply below_drew1) | exact HB.out)⟩⟩
        · rw [if_neg c4] at H
          exact absurd H (by simp)
      · replace c2 := Bool.eq_false_iff.mpr c2
        subst c2
        have H1 : (some x1_1) = some r := by rw [if_neg (show ¬ (false = true) by decide)] at H; exact H
        clear H
        have H := H1
        clear H1
        obtain rfl := Option.some.inj H
        go_wp2_with (first | ((with_reducible refine gate_callee (f := 18) rfl ?_); refine goesL_ (some 4) rfl rfl Tryd.func18 (by kernel_rfl) rfl #[.int .i64 x2_1] rfl (by (try simp only [List.map_toArray, List.map_cons, List.map_nil]); first | done | rfl | (simp only [List.length_drop, List.length_take]; rfl)) ?_; (with_reducible refine (trap_known.calls x2_1 false _ A1.out).mono ?_); rintro e w' ⟨rfl, ⟨nd, rfl⟩⟩; refine ⟨_, rfl, ?_⟩))
        go_ret
        exact ⟨_, by first | rfl | (simp [errW_none, errW_some] <;> rfl) | (simp [*, errW_none, errW_some] <;> rfl), by (with_reducible repeat (first | apply Kd.R_alloc | apply Kd.R_drewN | apply Kd.R_drew)); exact HO_1.out, by repeat (first | (with_reducible first | exact HB.out | apply below_alloc | apply pw_below_drewN | apply below_drew1) | exact HB.out)⟩

end Go.Proofs.YtflblckegjobnaaDoor.A
