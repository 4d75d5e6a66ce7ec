/- mmu.Map at user mode and write access: what it answers. Condition: the block count and the first block are 0 to 4096. -/
import Derived.Test.YtmlhdepemeodkaaRight
namespace Go.Proofs.Ytmlhdepemeodkaa.A
open Go Go.RowKit
set_option linter.unusedSimpArgs false
set_option linter.unusedVariables false
/-- A page. -/
def pgA (b n a : Int) : Ar := ⟨fun i => if i = 0 then b else if i = 1 then n else if i = 2 then a else 0, fun _ => false⟩
theorem build23 (b n a : Int) (w : World) : (Instr.build 23 #[(0, .int .i64 b), (1, .int .i64 n), (2, .int .i64 a)]).run Try.prog w = .ok (.agg (arr 4 1 (pgA b n a))) w := by
  rw [← arr_ext (C := #[.int .i64 b, .int .i64 n, .int .i64 a, .bool false]) (p := 1) (u := pgA b n a) (n := 4) rfl (fun j hj => by
    match j, hj with
    | 0, _ => rfl
    | 1, _ => rfl
    | 2, _ => rfl
    | 3, _ => rfl)]
  kernel_rfl
section
variable {ops : Array Oper} {o : Oper} {rest : List Oper} {a : Act} {Q : Exit → Act → World → Prop} {w : World}
theorem st_build23 {x0 x1 x2 : Operand} {b n c : Int} (hw : Region.wanted o (yielded ops a.tmps) = true) (ho : o.op = .build 23 #[(0, x0), (1, x1), (2, x2)]) (h0 : a.eval x0 = .int .i64 b) (h1 : a.eval x1 = .int .i64 n) (h2 : a.eval x2 = .int .i64 c)
    (h : wpList Try.prog ops Q rest (a.put o.dst (.agg (arr 4 1 (pgA b n c)))) w) : wpList Try.prog ops Q (o :: rest) a w :=
  st_val hw (by unfold execOp; simp only [ho, List.map_toArray, List.map_cons, List.map_nil, h0, h1, h2, Sem.run_bind, build23, Result.andThen_ok, Sem.run_pure]) h
end
def mn (r : Int) : Int := if 128 < r then 128 else r
def rm (c : Int) (k : Nat) : Int := c - min c (128 * k)
def bs (s c : Int) (k : Nat) : Int := s + min c (128 * k)
/-- The table after k entries. -/
def row (s c : Int) : Nat → Ar
  | 0 => az
  | k + 1 => if 0 < rm c k then up (row s c k) (k * 4) 4 (pgA (bs s c k) (mn (rm c k)) 2) else row s c k
theorem row_eq (s c : Int) (k : Nat) : row s c (k + 1) = if 0 < rm c k then up (row s c k) (k * 4) 4 (pgA (bs s c k) (mn (rm c k)) 2) else row s c k := rfl
def mapOk (s c : Int) : Prop := c ≤ 1024 ∧ s ≤ 4096 - c
def mapU (u : Ar) (s c : Int) : Ar := up u 33 32 (row s c 8)
theorem rm_bd {c : Int} (hc : 0 ≤ c ∧ c ≤ 1024) (k : Nat) : 0 ≤ rm c k ∧ rm c k ≤ 1024 := by unfold rm; omega
theorem bs_bd {s c : Int} (hs : 0 ≤ s ∧ s ≤ 4096) (hc : 0 ≤ c ∧ c ≤ 1024) (h : s ≤ 4096 - c) (k : Nat) : 0 ≤ bs s c k ∧ bs s c k + rm c k ≤ 4096 := by unfold bs rm; omega
theorem rm_pos {c : Int} {k : Nat} (h : 0 < rm c k) : rm c (k + 1) = rm c k - mn (rm c k) := by unfold mn; unfold rm at *; push_cast; split <;> omega
theorem bs_pos {s c : Int} {k : Nat} (h : 0 < rm c k) : bs s c (k + 1) = bs s c k + mn (rm c k) := by unfold mn; unfold bs rm at *; push_cast; split <;> omega
theorem rm_neg {c : Int} {k : Nat} (h : ¬ 0 < rm c k) (hc : 0 ≤ c) : rm c (k + 1) = rm c k := by unfold rm at *; push_cast; omega
theorem bs_neg {s c : Int} {k : Nat} (h : ¬ 0 < rm c k) (hc : 0 ≤ c) : bs s c (k + 1) = bs s c k := by unfold bs rm at *; push_cast; omega
set_option maxHeartbeats 8000000 in
set_option maxRecDepth 100000 in
theorem map_no (u : Ar) (s c : Int) (hs : 0 ≤ s ∧ s ≤ 4096) (hc : 0 ≤ c ∧ c ≤ 4096) (hn : ¬ mapOk s c) (w : World) : Calls Try.prog 6 #[.agg (arr 67 0 u), .int .i64 1, .int .i64 s, .int .i64 c, .int .i64 2] w fun e w' => e = .returned (.tuple #[.agg (arr 67 0 az), .int .i64 1]) ∧ Below w.heap.size w w' := by
  have hk0 := Blk.new w 67 0 27 u
  have HB0 := hidI (Below.alloc (Below.refl w.heap.size w) (Nat.le_refl _) (.cells (arr 67 0 u) 27))
  have c1 := fun W => from_t (n := 1) (m := 1) ⟨by omega, by omega⟩ W
  have h1 : decide (s < 0) = false := by simp; omega
  have hs0 := HB0.out.size
  by_cases hc2 : c ≤ 1024
  · have h2 : decide (4096 - c < s) = true := by simp; unfold mapOk at hn; omega
    have c2 := fun W => from_t (n := c) (m := 1024) ⟨hc.1, hc2⟩ W
    clear hn
    go_enter Try.func6, Try.ntmps6
    go_wp2_with (first
      | ((with_reducible refine g_alloc 27 ?_ rfl); have _t := HB0; refine st_alloc27 (by rfl) rfl ?_; have hz1 := Blk.new1 w (.cells (arr 67 0 u) 27) 67 0 27 az; have HB1 := hidI (HB0.out.alloc HB0.out.size (.cells (arr 67 0 az) 27)); clear HB0 hk0; try go_simp)
      | (go_at_call 16; have _t := c1; refine (c1 _).mono ?_; rintro e w' ⟨rfl, rfl⟩; clear c1)
      | (go_at_call 16; have _t := c2; refine (c2 _).mono ?_; rintro e w' ⟨rfl, rfl⟩; clear c2)
      | ((with_reducible refine g_build 27 ?_ rfl); refine st_build27 (by rfl) rfl ?_)
      | ((with_reducible refine g_store 27 ?_ rfl); refine st_store27 (by rfl) rfl rfl rfl hz1 (by omega) (by omega) ?_; intro w3 hz3 hu3; have HB3 := hidI (HB1.out.trans (hu3.below (by omega))); clear hz1 HB1 hu3))
    exact bodyPost_ret (hz3.res2 (v := .int .i64 1) rfl _ rfl rfl) rfl ⟨by rw [up_arr], HB3.out⟩
  · have c2 : ∀ W, Calls Try.prog 16 #[.int .i64 c, .int .i64 1024] W fun e w' => e = .returned (.bool false) ∧ w' = W := fun W => by
      have := from_v c 1024 W
      rw [decide_eq_true hc.1, decide_eq_false hc2] at this; exact this
    clear hn
    go_enter Try.func6, Try.ntmps6
    go_wp2_with (first
      | ((with_reducible refine g_alloc 27 ?_ rfl); have _t := HB0; refine st_alloc27 (by rfl) rfl ?_; have hz1 := Blk.new1 w (.cells (arr 67 0 u) 27) 67 0 27 az; have HB1 := hidI (HB0.out.alloc HB0.out.size (.cells (arr 67 0 az) 27)); clear HB0 hk0; try go_simp)
      | (go_at_call 16; have _t := c1; refine (c1 _).mono ?_; rintro e w' ⟨rfl, rfl⟩; clear c1)
      | (go_at_call 16; have _t := c2; refine (c2 _).mono ?_; rintro e w' ⟨rfl, rfl⟩; clear c2)
      | ((with_reducible refine g_build 27 ?_ rfl); refine st_build27 (by rfl) rfl ?_)
      | ((with_reducible refine g_store 27 ?_ rfl); refine st_store27 (by rfl) rfl rfl rfl hz1 (by omega) (by omega) ?_; intro w3 hz3 hu3; have HB3 := hidI (HB1.out.trans (hu3.below (by omega))); clear hz1 HB1 hu3))
    exact bodyPost_ret (hz3.res2 (v := .int .i64 1) rfl _ rfl rfl) rfl ⟨by rw [up_arr], HB3.out⟩
set_option maxHeartbeats 8000000 in
set_option maxRecDepth 100000 in
theorem map_yes (u : Ar) (s c : Int) (hs : 0 ≤ s ∧ s ≤ 4096) (hc : 0 ≤ c ∧ c ≤ 4096) (hn : mapOk s c) (w : World) : Calls Try.prog 6 #[.agg (arr 67 0 u), .int .i64 1, .int .i64 s, .int .i64 c, .int .i64 2] w fun e w' => e = .returned (.tuple #[.agg (arr 67 0 (mapU u s c)), .int .i64 0]) ∧ Below w.heap.size w w' := by
  have hk0 := Blk.new w 67 0 27 u
  have HB0 := hidI (Below.alloc (Below.refl w.heap.size w) (Nat.le_refl _) (.cells (arr 67 0 u) 27))
  obtain ⟨hn1, hn2⟩ := hn
  have c1 := fun W => from_t (n := 1) (m := 1) ⟨by omega, by omega⟩ W
  have c2 := fun W => from_t (n := c) (m := 1024) ⟨hc.1, hn1⟩ W
  have h1 : decide (s < 0) = false := by simp; omega
  have h2 : decide (4096 - c < s) = false := by simp; omega
  go_enter Try.func6, Try.ntmps6
  go_wp2_with (first
    | ((with_reducible refine g_alloc 27 ?_ rfl); have _t := HB0; refine st_alloc27 (by rfl) rfl ?_; have hz1 := Blk.new1 w (.cells (arr 67 0 u) 27) 67 0 27 az; have hk1 := hk0.alloc (.cells (arr 67 0 az) 27); have hs0 := HB0.out.size; have HB1 := hidI (HB0.out.alloc HB0.out.size (.cells (arr 67 0 az) 27)); clear HB0 hk0; try go_simp)
    | (go_at_call 16; have _t := c1; refine (c1 _).mono ?_; rintro e w' ⟨rfl, rfl⟩; clear c1)
    | (go_at_call 16; have _t := c2; refine (c2 _).mono ?_; rintro e w' ⟨rfl, rfl⟩; clear c2)
    | ((with_reducible refine g_alloc 24 ?_ rfl); have _t := HB1; refine st_alloc24 (by rfl) rfl ?_; have hp2 := Blk.new ((w.alloc (.cells (arr 67 0 u) 27)).alloc (.cells (arr 67 0 az) 27)) 32 1 24 az; have hz2 := hz1.alloc (.cells (arr 32 1 az) 24); have hk2 := hk1.alloc (.cells (arr 32 1 az) 24); have HB2 := hidI (HB1.out.alloc HB1.out.size (.cells (arr 32 1 az) 24)); rw [size1, size1] at hp2; clear HB1 hz1 hk1; try go_simp))
  clear _t hs0 h1 h2
  generalize ((w.alloc (.cells (arr 67 0 u) 27)).alloc (.cells (arr 67 0 az) 27)).alloc (.cells (arr 32 1 az) 24) = W2 at *
  have e1 : rm c 0 = c := by unfold rm; simp; omega
  have e2 : bs s c 0 = s := by unfold bs; simp; omega
  go_loopw [2, 3, 42] (fun y z x wr => ∃ k : Nat, k ≤ 8 ∧ x = .int .i64 k ∧ y = .int .i64 (bs s c k) ∧ z = .int .i64 (rm c k) ∧ Blk wr (w.heap.size + 2) 32 1 24 (row s c k) ∧ Blk wr (w.heap.size + 1) 67 0 27 az ∧ Blk wr w.heap.size 67 0 27 u ∧ Below w.heap.size w wr) (fun _ _ x _ => 8 - (intOf x).toNat)
  case atStart => exact ⟨0, by omega, rfl, by rw [e2], by rw [e1], hp2, hz2, hk2, HB2.out⟩
  case round =>
    clear hp2 hz2 hk2 HB2 e1 e2
    obtain ⟨k, hk, rfl, rfl, rfl, hp, hz, hblk, hbel⟩ := hrel
    have HB := hidI hbel; clear hbel
    have hlb := hp.lt
    by_cases hk8 : k < 8
    · have hlt : (k : Int) < 8 := by omega
      have hk0 : (0 : Int) ≤ k := by omega
      have hr := rm_bd ⟨hc.1, hn1⟩ k
      have hb := bs_bd hs ⟨hc.1, hn1⟩ hn2 k
      have HRow := row_eq s c k
      by_cases hpos : 0 < rm c k
      · rw [if_pos hpos] at HRow
        have HR := hidI HRow; clear HRow
        have HP := hidI (rm_pos hpos)
        have HQ := hidI (bs_pos (s := s) hpos)
        generalize rm c k = r at *
        generalize bs s c k = b at *
        obtain ⟨n, hn⟩ : ∃ n, n = mn r := ⟨_, rfl⟩
        rw [← hn] at HR HP HQ
        have hmE : (if 128 < r then 128 else r) = n := by rw [hn]; rfl
        have hn0 : 0 < n := by rw [hn]; unfold mn; split <;> omega
        have hn128 : n ≤ 128 := by rw [hn]; unfold mn; split <;> omega
        have hnr : n ≤ r := by rw [hn]; unfold mn; split <;> omega
        clear hn hpos
        obtain ⟨hr0, hr1⟩ := hr
        obtain ⟨hb0, hb1⟩ := hb
        go_wp2_with (first
          | ((with_reducible refine g_build 23 ?_ rfl); refine st_build23 (by rfl) rfl rfl rfl rfl ?_)
          | ((with_reducible refine g_store 23 ?_ rfl); refine st_store23 (by rfl) rfl rfl rfl hp (by omega) (by omega) ?_; intro w2 hp2 hu2; have hz2 := hz.upd hu2 (by omega); have hb2 := hblk.upd hu2 (by omega); have HB2 := hidI (HB.out.trans (hu2.below (by omega))); clear hp HB hu2 hz hblk))
        go_roundw
        case measure => simp [intOf]; omega
        case rel => exact ⟨k + 1, by omega, by go_num, by rw [HQ.out], by rw [HP.out], by rw [HR.out]; exact hp2, hz2, hb2, HB2.out⟩
      · rw [if_neg hpos] at HRow
        have HR := hidI HRow; clear HRow
        have HP := hidI (rm_neg hpos hc.1)
        have HQ := hidI (bs_neg (s := s) hpos hc.1)
        generalize rm c k = r at *
        generalize bs s c k = b at *
        have hmE : (if 128 < r then 128 else r) = r := by rw [if_neg (by omega)]
        have hpd : decide (0 < r) = false := by simpa using hpos
        clear hpos
        go_wp2
        go_roundw
        case measure => simp [intOf]; omega
        case rel => exact ⟨k + 1, by omega, by go_num, by rw [HQ.out], by rw [HP.out], by rw [HR.out]; exact hp, hz, hblk, HB.out⟩
    · obtain rfl : k = 8 := by omega
      rw [show ((8 : Nat) : Int) = 8 from rfl]
      generalize bs s c 8 = b8 at *
      generalize rm c 8 = r8 at *
      have HM := hidI (show up u 33 32 (row s c 8) = mapU u s c from rfl)
      generalize row s c 8 = R at *
      go_wp2_with (first
        | ((with_reducible refine g_load 24 ?_ rfl); refine st_load24 (by rfl) rfl rfl hp (by omega) (by omega) ?_; rw [sh_zero])
        | ((with_reducible refine g_store 24 ?_ rfl); refine st_store24 (by rfl) rfl rfl rfl hblk (by omega) (by omega) ?_; intro w2 hb2 hu2; have hz2 := hz.upd hu2 (by omega); have HB2 := hidI (HB.out.trans (hu2.below (by omega))); clear hp HB hu2 hz hblk)
        | ((with_reducible refine g_load 27 ?_ rfl); refine st_load27 (by rfl) rfl rfl hb2 (by omega) (by omega) ?_; rw [sh_zero, HM.out])
        | ((with_reducible refine g_store 27 ?_ rfl); refine st_store27 (by rfl) rfl rfl rfl hz2 (by omega) (by omega) ?_; intro w3 hz3 hu3; have HB3 := hidI (HB2.out.trans (hu3.below (by omega))); clear hz2 HB2 hu3))
      exact bodyPost_ret (hz3.res2 (v := .int .i64 0) rfl _ rfl rfl) rfl ⟨by rw [up_arr], HB3.out⟩
end Go.Proofs.Ytmlhdepemeodkaa.A
