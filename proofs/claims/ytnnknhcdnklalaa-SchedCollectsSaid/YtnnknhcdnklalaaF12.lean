/- The reference's after, Next, resident and Victim: what each call returns. No condition. -/
import Derived.Test.YtnnknhcdnklalaaF11
namespace Go.Proofs.Ytnnknhcdnklalaa.A
open Go Go.RowKit
set_option linter.unusedSimpArgs false
set_option linter.unusedVariables false
def ordL (s k : Nat) : List Value := (List.range k).map fun j => Value.int .i64 (((s + j) % 8 : Nat) : Int)
theorem ordL_succ (s k : Nat) : ordL s (k + 1) = ordL s k ++ [Value.int .i64 (((s + k) % 8 : Nat) : Int)] := by
  unfold ordL; rw [List.range_succ, List.map_append]; rfl
theorem info3z : (Try.prog.info? 3).map (fun i => (i.zero, i.size, i.bytes)) = some (some (.int .i64 0), 1, 8) := by kernel_rfl
theorem own_block {w : World} {base : Nat} {e : TypeId} {size n : Nat} {v : Value} {xs : List Value} (h : w.ownsRow base e size v n xs) : ∀ k, v.ownBlock = some k → base ≤ k := by
  intro k hk
  rcases h.2 with ⟨rfl, _⟩ | ⟨g, cap, cur, rfl, hg, _⟩
  · simp [Value.ownBlock] at hk
  · simp [Value.ownBlock] at hk; omega
/-- Block g begins with the indexes from s on, round the table. -/
def Ord (w : World) (g s : Nat) : Prop := ∀ j, j < 8 → w.cell? ⟨g, j, none⟩ = some (.int .i64 (((s + j) % 8 : Nat) : Int))
theorem ord_of {w : World} {base : Nat} {v : Value} {s : Nat} (h : w.ownsRow base 3 1 v 8 (ordL s 8)) : ∃ g cap, v = .slice (some ⟨g, 0, none⟩) 8 cap ∧ base ≤ g ∧ g < w.heap.size ∧ Ord w g s := by
  rcases h.2 with ⟨_, h0⟩ | ⟨g, cap, cur, hv, hg, hh, _, _, _, ht⟩
  · omega
  · refine ⟨g, cap, hv, hg, (Array.getElem?_eq_some_iff.1 hh).1, fun j hj => ?_⟩
    rw [cell_of_row _ _ _ _ _ _ hh]
    have := congrArg (fun l : List Value => l[j]?) ht
    simp only [List.getElem?_take, Array.getElem?_toList] at this
    rw [if_pos (by omega)] at this
    rw [this]
    unfold ordL
    rw [List.getElem?_map, List.getElem?_range hj]; rfl
def OrdRes (w0 : World) (s : Nat) (e : Ending) (w' : World) : Prop := ∃ g cap, e = .returned (.slice (some ⟨g, 0, none⟩) 8 cap) ∧ w0.heap.size ≤ g ∧ g < w'.heap.size ∧ Ord w' g s ∧ Below w0.heap.size w0 w'
set_option maxHeartbeats 2000000 in
theorem after_v (a : Int) (w : World) : Calls Try.prog 41 #[.int .i64 a] w (OrdRes w (start a)) := by
  by_cases hr : 0 ≤ a ∧ a ≤ 7
  · obtain ⟨s, rfl⟩ : ∃ s : Nat, a = s := ⟨a.toNat, by omega⟩
    have hs : start (s : Int) = s + 1 := by unfold start; rw [if_pos hr]; simp
    rw [hs]; clear hs
    have hd : decide ((s : Int) < 0) = false := by simp
    have hd8 : decide ((8 : Int) ≤ s) = false := by simp; omega
    have h7 : (s : Int) ≤ 7 := by omega
    clear hr
    obtain ⟨i0, hi, hz0, hz1, hz2⟩ := info_parts info3z
    go_enter Try.func41, Try.ntmps41
    go_wp2
    go_loopw [3, 4] (fun v x wr => ∃ k : Nat, k ≤ 8 ∧ x = .int .i64 ((k : Int) + 1) ∧ wr.ownsRow w.heap.size 3 1 v k (ordL (s + 1) k) ∧ Below w.heap.size w wr) (fun _ x _ => 9 - (intOf x).toNat)
    case atStart => exact ⟨0, by omega, rfl, ⟨rfl, Or.inl ⟨rfl, rfl⟩⟩, Below.refl _ _⟩
    case round =>
      obtain ⟨k, hk, rfl, hown, hbel⟩ := hrel
      by_cases hk8 : k < 8
      · have hlt : (k : Int) + 1 ≤ 8 := by omega
        have hlo : (0 : Int) ≤ k := by omega
        have ei : ((s : Int) + ((k : Int) + 1)) % 8 = (((s + 1 + k) % 8 : Nat) : Int) := by omega
        have hos := ordL_succ (s + 1) k
        have HO := hidI hos; clear hos
        have HB := hidI hbel; clear hbel
        have HOB := hidI (own_block hown)
        generalize (((s + 1 + k) % 8 : Nat) : Int) = z at *
        go_wp2_with (first
          | (at_builtin; refine wpList_append_own _ rfl _ _ 38 rfl w.heap.size 3 i0 (.int .i64 0) 1 8 Try.underlying38 hi hz0 hz1 hz2 rfl (by decide) _ _ _ rfl (hown.alloc _) ⟨wr.heap.size, 0, none⟩ 1 1 [.int .i64 z] rfl rfl ?c1 ?c2 ?c3 ?c4 ?c5 ?_))
        case c1 => intro j u hj; have hj0 : j = 0 := (by have := (List.getElem?_eq_some_iff.1 hj).1; simpa using this); subst hj0; simp at hj; subst hj; simp [go_sem, Addr.add]
        case c2 => intro u hu; simp at hu; subst hu; rfl
        case c3 => unfold maxLen; omega
        case c4 => omega
        case c5 => have := HB.out.size; simp; omega
        intro v' w1 hown1 hgrow _
        have hb1 := (HB.out.alloc HB.out.size (.cells #[.int .i64 z] 3)).grown hgrow (by have := HB.out.size; simp; omega) HOB.out
        rw [← HO.out] at hown1
        have HB1 := hidI hb1; clear hb1 hgrow HO HOB HB hown
        go_wp2
        go_roundw
        case measure => simp [intOf]; omega
        case rel => exact ⟨k + 1, by omega, by go_num, hown1, HB1.out⟩
      · obtain rfl : k = 8 := by omega
        rw [show ((8 : Nat) : Int) = 8 from rfl]
        obtain ⟨g, cap, rfl, hg, hg2, ho⟩ := ord_of hown
        have HO := hidI ho; clear ho
        clear hown
        go_wp2
        go_ret
        exact ⟨g, cap, rfl, hg, hg2, HO.out, hbel⟩
  · have hs : start a = 0 := by unfold start; rw [if_neg hr]
    rw [hs]; clear hs
    by_cases hn : a < 0
    · have hd : decide (a < 0) = true := by simpa using hn
      clear hr hn
      obtain ⟨i0, hi, hz0, hz1, hz2⟩ := info_parts info3z
      go_enter Try.func41, Try.ntmps41
      go_wp2
      go_loopw [3, 4] (fun v x wr => ∃ k : Nat, k ≤ 8 ∧ x = .int .i64 ((k : Int) + 1) ∧ wr.ownsRow w.heap.size 3 1 v k (ordL (0) k) ∧ Below w.heap.size w wr) (fun _ x _ => 9 - (intOf x).toNat)
      case atStart => exact ⟨0, by omega, rfl, ⟨rfl, Or.inl ⟨rfl, rfl⟩⟩, Below.refl _ _⟩
      case round =>
        obtain ⟨k, hk, rfl, hown, hbel⟩ := hrel
        by_cases hk8 : k < 8
        · have hlt : (k : Int) + 1 ≤ 8 := by omega
          have hlo : (0 : Int) ≤ k := by omega
          have ei : ((7 : Int) + ((k : Int) + 1)) % 8 = (((0 + k) % 8 : Nat) : Int) := by omega
          have hos := ordL_succ (0) k
          have HO := hidI hos; clear hos
          have HB := hidI hbel; clear hbel
          have HOB := hidI (own_block hown)
          generalize (((0 + k) % 8 : Nat) : Int) = z at *
          go_wp2_with (first
            | (at_builtin; refine wpList_append_own _ rfl _ _ 38 rfl w.heap.size 3 i0 (.int .i64 0) 1 8 Try.underlying38 hi hz0 hz1 hz2 rfl (by decide) _ _ _ rfl (hown.alloc _) ⟨wr.heap.size, 0, none⟩ 1 1 [.int .i64 z] rfl rfl ?c1 ?c2 ?c3 ?c4 ?c5 ?_))
          case c1 => intro j u hj; have hj0 : j = 0 := (by have := (List.getElem?_eq_some_iff.1 hj).1; simpa using this); subst hj0; simp at hj; subst hj; simp [go_sem, Addr.add]
          case c2 => intro u hu; simp at hu; subst hu; rfl
          case c3 => unfold maxLen; omega
          case c4 => omega
          case c5 => have := HB.out.size; simp; omega
          intro v' w1 hown1 hgrow _
          have hb1 := (HB.out.alloc HB.out.size (.cells #[.int .i64 z] 3)).grown hgrow (by have := HB.out.size; simp; omega) HOB.out
          rw [← HO.out] at hown1
          have HB1 := hidI hb1; clear hb1 hgrow HO HOB HB hown
          go_wp2
          go_roundw
          case measure => simp [intOf]; omega
          case rel => exact ⟨k + 1, by omega, by go_num, hown1, HB1.out⟩
        · obtain rfl : k = 8 := by omega
          rw [show ((8 : Nat) : Int) = 8 from rfl]
          obtain ⟨g, cap, rfl, hg, hg2, ho⟩ := ord_of hown
          have HO := hidI ho; clear ho
          clear hown
          go_wp2
          go_ret
          exact ⟨g, cap, rfl, hg, hg2, HO.out, hbel⟩
    · have hd : decide (a < 0) = false := by simpa using hn
      have hd8 : decide ((8 : Int) ≤ a) = true := by simp; omega
      have hn0 : 0 ≤ a := by omega
      clear hr hn
      obtain ⟨i0, hi, hz0, hz1, hz2⟩ := info_parts info3z
      go_enter Try.func41, Try.ntmps41
      go_wp2
      go_loopw [3, 4] (fun v x wr => ∃ k : Nat, k ≤ 8 ∧ x = .int .i64 ((k : Int) + 1) ∧ wr.ownsRow w.heap.size 3 1 v k (ordL (0) k) ∧ Below w.heap.size w wr) (fun _ x _ => 9 - (intOf x).toNat)
      case atStart => exact ⟨0, by omega, rfl, ⟨rfl, Or.inl ⟨rfl, rfl⟩⟩, Below.refl _ _⟩
      case round =>
        obtain ⟨k, hk, rfl, hown, hbel⟩ := hrel
        by_cases hk8 : k < 8
        · have hlt : (k : Int) + 1 ≤ 8 := by omega
          have hlo : (0 : Int) ≤ k := by omega
          have ei : ((7 : Int) + ((k : Int) + 1)) % 8 = (((0 + k) % 8 : Nat) : Int) := by omega
          have hos := ordL_succ (0) k
          have HO := hidI hos; clear hos
          have HB := hidI hbel; clear hbel
          have HOB := hidI (own_block hown)
          generalize (((0 + k) % 8 : Nat) : Int) = z at *
          go_wp2_with (first
            | (at_builtin; refine wpList_append_own _ rfl _ _ 38 rfl w.heap.size 3 i0 (.int .i64 0) 1 8 Try.underlying38 hi hz0 hz1 hz2 rfl (by decide) _ _ _ rfl (hown.alloc _) ⟨wr.heap.size, 0, none⟩ 1 1 [.int .i64 z] rfl rfl ?c1 ?c2 ?c3 ?c4 ?c5 ?_))
          case c1 => intro j u hj; have hj0 : j = 0 := (by have := (List.getElem?_eq_some_iff.1 hj).1; simpa using this); subst hj0; simp at hj; subst hj; simp [go_sem, Addr.add]
          case c2 => intro u hu; simp at hu; subst hu; rfl
          case c3 => unfold maxLen; omega
          case c4 => omega
          case c5 => have := HB.out.size; simp; omega
          intro v' w1 hown1 hgrow _
          have hb1 := (HB.out.alloc HB.out.size (.cells #[.int .i64 z] 3)).grown hgrow (by have := HB.out.size; simp; omega) HOB.out
          rw [← HO.out] at hown1
          have HB1 := hidI hb1; clear hb1 hgrow HO HOB HB hown
          go_wp2
          go_roundw
          case measure => simp [intOf]; omega
          case rel => exact ⟨k + 1, by omega, by go_num, hown1, HB1.out⟩
        · obtain rfl : k = 8 := by omega
          rw [show ((8 : Nat) : Int) = 8 from rfl]
          obtain ⟨g, cap, rfl, hg, hg2, ho⟩ := ord_of hown
          have HO := hidI ho; clear ho
          clear hown
          go_wp2
          go_ret
          exact ⟨g, cap, rfl, hg, hg2, HO.out, hbel⟩
end Go.Proofs.Ytnnknhcdnklalaa.A
