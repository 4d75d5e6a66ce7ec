/- Of the proofs of the laws of emulatorlaw26: Ax0, Spec, Small, Name, Blk, NameB, Arith, Bin, Binary, Ax17, RdSpec, Ax2, Ax3, Ax4, NameEq, Ax5, EvW, SymAt, XOk, RdNest. Conditions: those of each theorem. -/
import Derived.Test.YtpinoobgnnlccaaProg
import Derived.Below
import Derived.Deep.Draws
import Derived.Deep.AppendLies
import Derived.Maps.AppendAt
import Derived.OwnWalk
import Derived.Laws.BytesArg
import Derived.Laws.MakeOwn
import Derived.Laws.OwnMore
import Derived.Deep.OwnRows
import Derived.Tactics
import Derived.Lib.ConvBytes
import Derived.Laws.Slices
import Derived.WalkKit
import Derived.KernelRfl
import Derived.RowKit3
import Derived.Deep.LoopGhost
import Derived.Deep.QuietTactic
import Derived.BigQuiet
import Derived.WideLaws
import Derived.Deep.DeepCutAuto
import Derived.Deep.CutBlock
import Derived.Deep.RegionHeld3
import Derived.Laws.Rows
import Derived.Lib.AppendStr
import Derived.ArgAppend
import Derived.Laws.IdiomCopy
import Derived.OrdersHeld
import Derived.Laws.BitsLemmas
import Derived.RowKit
import Derived.Test.YtpinoobgnnlccaaWd
import Derived.LoopN
import Derived.LoopTactic
import Derived.Deep.MidRow
import Derived.Deep.RegionHeld
import Derived.Laws.ResultCell
-- Written by a program of this session (mp.py) over the kit's print.py, with proofs by hand for what the print does not take.
namespace Go.Proofs.Ytpinoobgnnlccaa.A
open Go.RowKit Go.Proofs.YtpinoobgnnlccaaW.PrintWords Go.Proofs.YtpinoobgnnlccaaW.PrintLast Go.Proofs.YtpinoobgnnlccaaW.PrintMore
attribute [local go_sem] max2_int min2_int max_two min_two max_three min_three max_four min_four   -- for this text's walks alone
set_option linter.unusedVariables false
set_option linter.unusedSimpArgs false
def errW : Option Int → Value
  | none => .nilIface
  | some c => .iface 0 (.int .i64 c)
theorem errW_none : errW none = .nilIface := rfl
theorem errW_some (c : Int) : errW (some c) = .iface 0 (.int .i64 c) := rfl
theorem info38 : (Try.prog.info? 38).map (fun i => (i.zero, i.size, i.bytes)) = some (some (.agg #[(.int .i64 0), (.string ⟨#[]⟩), (.int .i64 0), (.int .i64 0)]), 4, 40) := by kernel_rfl
theorem info44 : (Try.prog.info? 44).map (fun i => (i.zero, i.size, i.bytes)) = some (some (.agg #[(.string ⟨#[]⟩), (.int .i64 0), (.int .i64 0), (.bool false)]), 4, 40) := by kernel_rfl
-- the values' own types
/-! #### struct type 44 -/
structure S44 where
  f0 : ByteArray
  f1 : Int
  f2 : Int
  f3 : Bool
def z44 : S44 := ⟨(⟨#[]⟩ : ByteArray), (0 : Int), (0 : Int), false⟩
def k44 : Kd S44 := Kd.iso (Kd.pair Kd.string (Kd.pair (Kd.int .i64) (Kd.pair (Kd.int .i64) Kd.bool))) (fun x : S44 => (x.f0, x.f1, x.f2, x.f3))
theorem k44_open {w : World} {x : S44} {cs : List Value} (h : k44.K w x cs) : cs = [.string x.f0, .int .i64 x.f1, .int .i64 x.f2, .bool x.f3] := by
  obtain ⟨_, _, rfl, rfl, ⟨_, _, rfl, rfl, ⟨_, _, rfl, rfl, rfl⟩⟩⟩ := h
  exact rfl
theorem k44_openM {w : World} {base : Nat} {ok : Nat → Prop} {x : S44} {cs : List Value} (h : k44.M w base ok x cs) : cs = [.string x.f0, .int .i64 x.f1, .int .i64 x.f2, .bool x.f3] := by
  obtain ⟨_, _, rfl, rfl, ⟨_, _, rfl, rfl, ⟨_, _, rfl, rfl, rfl⟩⟩⟩ := h
  exact rfl
theorem k44_mk (w : World) (x : S44)  : k44.K w x [.string x.f0, .int .i64 x.f1, .int .i64 x.f2, .bool x.f3] := ⟨[.string x.f0], [.int .i64 x.f1, .int .i64 x.f2, .bool x.f3], rfl, rfl, ⟨[.int .i64 x.f1], [.int .i64 x.f2, .bool x.f3], rfl, rfl, ⟨[.int .i64 x.f2], [.bool x.f3], rfl, rfl, rfl⟩⟩⟩
theorem k44_mkM (w : World) (base : Nat) (ok : Nat → Prop) (x : S44)  : k44.M w base ok x [.string x.f0, .int .i64 x.f1, .int .i64 x.f2, .bool x.f3] := ⟨[.string x.f0], [.int .i64 x.f1, .int .i64 x.f2, .bool x.f3], rfl, rfl, ⟨[.int .i64 x.f1], [.int .i64 x.f2, .bool x.f3], rfl, rfl, ⟨[.int .i64 x.f2], [.bool x.f3], rfl, rfl, rfl⟩⟩⟩
def rd_T44 (xs : List S44) (i : Int) : S44 := xs.getD i.toNat z44
theorem at_T44 {w : World} {A : Option Addr} {n : Nat} {xs : List S44} (h : Kd.C k44 w A n xs) (i : Int) (h0 : 0 ≤ i) (h1 : i < n) : ∃ ad , A = some ad ∧ w.cell? (ad.add (i.toNat * 4)) = some (.string (rd_T44 xs i).f0) ∧ w.cell? ⟨(ad.add (i.toNat * 4)).block, (ad.add (i.toNat * 4)).off + 1, none⟩ = some (.int .i64 (rd_T44 xs i).f1) ∧ w.cell? ⟨(ad.add (i.toNat * 4)).block, (ad.add (i.toNat * 4)).off + 2, none⟩ = some (.int .i64 (rd_T44 xs i).f2) ∧ w.cell? ⟨(ad.add (i.toNat * 4)).block, (ad.add (i.toNat * 4)).off + 3, none⟩ = some (.bool (rd_T44 xs i).f3) := by
  obtain ⟨ad, c, e, _, hK, hc0⟩ := Kd.C_get h z44 i h0 h1
  have hc : ∀ j u, c[j]? = some u → w.cell? (ad.add (i.toNat * 4 + j)) = some u := hc0
  obtain rfl := k44_open hK
  exact ⟨ad, e, hc 0 _ rfl, by rw [← add_field _ _ 1 (by omega)]; exact hc 1 _ rfl, by rw [← add_field _ _ 2 (by omega)]; exact hc 2 _ rfl, by rw [← add_field _ _ 3 (by omega)]; exact hc 3 _ rfl⟩
/-! #### struct type 38 -/
structure S38 where
  f0 : Int
  f1 : ByteArray
  f2 : Int
  f3 : Int
def z38 : S38 := ⟨(0 : Int), (⟨#[]⟩ : ByteArray), (0 : Int), (0 : Int)⟩
def k38 : Kd S38 := Kd.iso (Kd.pair (Kd.int .i64) (Kd.pair Kd.string (Kd.pair (Kd.int .i64) (Kd.int .i64)))) (fun x : S38 => (x.f0, x.f1, x.f2, x.f3))
theorem k38_open {w : World} {x : S38} {cs : List Value} (h : k38.K w x cs) : cs = [.int .i64 x.f0, .string x.f1, .int .i64 x.f2, .int .i64 x.f3] := by
  obtain ⟨_, _, rfl, rfl, ⟨_, _, rfl, rfl, ⟨_, _, rfl, rfl, rfl⟩⟩⟩ := h
  exact rfl
theorem k38_openM {w : World} {base : Nat} {ok : Nat → Prop} {x : S38} {cs : List Value} (h : k38.M w base ok x cs) : cs = [.int .i64 x.f0, .string x.f1, .int .i64 x.f2, .int .i64 x.f3] := by
  obtain ⟨_, _, rfl, rfl, ⟨_, _, rfl, rfl, ⟨_, _, rfl, rfl, rfl⟩⟩⟩ := h
  exact rfl
theorem k38_mk (w : World) (x : S38)  : k38.K w x [.int .i64 x.f0, .string x.f1, .int .i64 x.f2, .int .i64 x.f3] := ⟨[.int .i64 x.f0], [.string x.f1, .int .i64 x.f2, .int .i64 x.f3], rfl, rfl, ⟨[.string x.f1], [.int .i64 x.f2, .int .i64 x.f3], rfl, rfl, ⟨[.int .i64 x.f2], [.int .i64 x.f3], rfl, rfl, rfl⟩⟩⟩
theorem k38_mkM (w : World) (base : Nat) (ok : Nat → Prop) (x : S38)  : k38.M w base ok x [.int .i64 x.f0, .string x.f1, .int .i64 x.f2, .int .i64 x.f3] := ⟨[.int .i64 x.f0], [.string x.f1, .int .i64 x.f2, .int .i64 x.f3], rfl, rfl, ⟨[.string x.f1], [.int .i64 x.f2, .int .i64 x.f3], rfl, rfl, ⟨[.int .i64 x.f2], [.int .i64 x.f3], rfl, rfl, rfl⟩⟩⟩
def rd_T38 (xs : List S38) (i : Int) : S38 := xs.getD i.toNat z38
theorem at_T38 {w : World} {A : Option Addr} {n : Nat} {xs : List S38} (h : Kd.C k38 w A n xs) (i : Int) (h0 : 0 ≤ i) (h1 : i < n) : ∃ ad , A = some ad ∧ w.cell? (ad.add (i.toNat * 4)) = some (.int .i64 (rd_T38 xs i).f0) ∧ w.cell? ⟨(ad.add (i.toNat * 4)).block, (ad.add (i.toNat * 4)).off + 1, none⟩ = some (.string (rd_T38 xs i).f1) ∧ w.cell? ⟨(ad.add (i.toNat * 4)).block, (ad.add (i.toNat * 4)).off + 2, none⟩ = some (.int .i64 (rd_T38 xs i).f2) ∧ w.cell? ⟨(ad.add (i.toNat * 4)).block, (ad.add (i.toNat * 4)).off + 3, none⟩ = some (.int .i64 (rd_T38 xs i).f3) := by
  obtain ⟨ad, c, e, _, hK, hc0⟩ := Kd.C_get h z38 i h0 h1
  have hc : ∀ j u, c[j]? = some u → w.cell? (ad.add (i.toNat * 4 + j)) = some u := hc0
  obtain rfl := k38_open hK
  exact ⟨ad, e, hc 0 _ rfl, by rw [← add_field _ _ 1 (by omega)]; exact hc 1 _ rfl, by rw [← add_field _ _ 2 (by omega)]; exact hc 2 _ rfl, by rw [← add_field _ _ 3 (by omega)]; exact hc 3 _ rfl⟩
end Go.Proofs.Ytpinoobgnnlccaa.A

/- Plain functions: what asmexpr and its reference compute. No program in sight. -/
namespace Go.Proofs.Ytpinoobgnnlccaa.A
open Go Go.RowKit Go.Proofs.YtpinoobgnnlccaaW.PrintWords
set_option linter.unusedVariables false
def wrp (n : Int) : Int := Go.bits .and .i64 n 65535
abbrev VV := Int × ByteArray × Int
def v0 : VV := (0, ⟨#[]⟩, 0)
/-- a value, and an error -/
abbrev VE := VV × Int
/-- a value, where it ends, and an error -/
abbrev RR := VV × Nat × Int
def ve (e : Int) : VE := (v0, e)
def re (e : Int) : RR := (v0, 0, e)
def str (l : List UInt8) : ByteArray := ⟨l.toArray⟩
def sIs (s : ByteArray) (l : List UInt8) : Bool := s.toList == l
def letC (c : Int) : Bool := (decide (97 ≤ c) && decide (c ≤ 122)) || (decide (65 ≤ c) && decide (c ≤ 90))
def digC (c : Int) : Bool := decide (48 ≤ c) && decide (c ≤ 57)
def nbC (c : Int) (first : Bool) : Bool := letC c || c == 95 || c == 46 || c == 36 || (!first && digC c)
def nbU (c : UInt8) : Bool := nbC (c.toNat : Int) false
def regs : List (List UInt8) := [[114, 48], [114, 49], [114, 50], [114, 51], [114, 52], [114, 53], [115, 112], [112, 99]]
/-- asmlex.Name -/
def nameL (l : List UInt8) : Bool := (match l with | [] => false | c :: _ => nbC (c.toNat : Int) true) && l.all nbU && decide (l.length ≤ 14) && !(regs.contains l)
def nameS (s : ByteArray) : Bool := nameL s.data.toList
def validS (c : Int) (s : ByteArray) (n : Int) : Bool := if c < 0 ∨ 4 < c ∨ n < 0 ∨ 65535 < n then false else if c = 4 then nameS s else sIs s []
def isOp (s : ByteArray) : Bool := sIs s [43] || sIs s [45] || sIs s [42] || sIs s [47] || sIs s [38] || sIs s [124]
def addS (a b : VV) : VE := if b.1 = 0 then ((a.1, a.2.1, wrp (wrap64 (a.2.2 + b.2.2))), 0) else if a.1 = 0 then ((b.1, b.2.1, wrp (wrap64 (b.2.2 + a.2.2))), 0) else ve 22
def subS (a b : VV) : VE := if b.1 = 0 then ((a.1, a.2.1, wrp (wrap64 (a.2.2 + wrap64 (-b.2.2)))), 0) else if a.1 = b.1 ∧ a.1 ≠ 4 then ((0, ⟨#[]⟩, wrp (wrap64 (a.2.2 - b.2.2))), 0) else ve 22
def numS (f : Int → Int → Int) (a b : VV) : VE := if a.1 ≠ 0 ∨ b.1 ≠ 0 then ve 22 else ((0, ⟨#[]⟩, wrp (f a.2.2 b.2.2)), 0)
def mulF (x y : Int) : Int := wrap64 (x * y)
def divF (x y : Int) : Int := wrap64 (x.tdiv (if y < 1 then 1 else y))
def andF (x y : Int) : Int := Go.bits .and .i64 x y
def orF (x y : Int) : Int := Go.bits .or .i64 x y
def divS (a b : VV) : VE := if a.1 = 0 ∧ b.1 = 0 ∧ b.2.2 = 0 then ve 2 else numS divF a b
/-- the operation of this name; asked for operators alone -/
def opS (o : ByteArray) (a b : VV) : VE := if sIs o [43] = true then addS a b else if sIs o [45] = true then subS a b else if sIs o [42] = true then numS mulF a b else if sIs o [47] = true then divS a b else if sIs o [38] = true then numS andF a b else numS orF a b
def binS (o : ByteArray) (a b : VV) : VE := if isOp o = true ∧ validS a.1 a.2.1 a.2.2 = true ∧ validS b.1 b.2.1 b.2.2 = true then opS o a b else ve 1
def findFrom (s : ByteArray) : List S44 → Int → Int
  | [], _ => -1
  | x :: r, i => if (x.f0.toList == s.toList) = true then i else findFrom s r (i + 1)
def namedS (S : List S44) (s : ByteArray) : VV :=
  match S.find? (fun x => x.f0.toList == s.toList) with
  | some x => if 0 ≤ x.f1 ∧ x.f1 ≤ 3 then (x.f1, ⟨#[]⟩, wrp x.f2) else (4, s, 0)
  | none => (4, s, 0)
def fits (L : List S38) : Bool := decide (L.length ≤ 1000) && L.all (fun t => decide (t.f1.size ≤ 1000))
section
variable (L : List S38) (S : List S44) (h : VV)
/-- the text of the symbol at a place, or nothing -/
def symS (i : Nat) : ByteArray := if i < L.length ∧ (rd_T38 L i).f0 = 4 then (rd_T38 L i).f1 else ⟨#[]⟩
def atomT (t : S38) : VE :=
  if t.f0 = 2 then ((0, ⟨#[]⟩, wrp t.f2), 0) else if t.f0 = 1 ∧ sIs t.f1 [46] = true then (h, 0) else if t.f0 = 1 ∧ nameS t.f1 = true then (namedS S t.f1, 0) else ve 3
def atomS (i : Nat) : RR := if L.length ≤ i then re 3 else if (atomT S h (rd_T38 L i)).2 = 0 then ((atomT S h (rd_T38 L i)).1, i + 1, 0) else re 3
def loopS (tm : Nat → RR) : Nat → VV → Nat → RR
  | 0, v, i => (v, i, 0)
  | k + 1, v, i =>
    if isOp (symS L i) = true then
      if (tm (i + 1)).2.2 = 0 then
        if (opS (symS L i) v (tm (i + 1)).1).2 = 0 then loopS tm k (opS (symS L i) v (tm (i + 1)).1).1 (tm (i + 1)).2.1
        else re (opS (symS L i) v (tm (i + 1)).1).2
      else re (tm (i + 1)).2.2
    else (v, i, 0)
def exprS (tm : Nat → RR) (i : Nat) : RR := if (tm i).2.2 = 0 then loopS L tm L.length (tm i).1 (tm i).2.1 else re (tm i).2.2
def negS (r : RR) : RR := if r.2.2 = 0 then ((subS v0 r.1).1, r.2.1, (subS v0 r.1).2) else re r.2.2
def parS (r : RR) : RR := if r.2.2 = 0 then (if sIs (symS L r.2.1) [41] = true then (r.1, r.2.1 + 1, 0) else re 3) else re r.2.2
def termS : Nat → Nat → RR
  | 0, i => if sIs (symS L i) [45] = true then re 7 else if sIs (symS L i) [40] = true then re 7 else atomS L S h i
  | d + 1, i => if sIs (symS L i) [45] = true then negS (termS d (i + 1)) else if sIs (symS L i) [40] = true then parS L (exprS L (termS d) (i + 1)) else atomS L S h i
def evalS (i : Int) : RR := if i < 0 ∨ (L.length : Int) < i ∨ validS h.1 h.2.1 h.2.2 = false then re 1 else exprS L (termS L S h 16) i.toNat
end
end Go.Proofs.Ytpinoobgnnlccaa.A

/- Small functions of asmexpr and asmlex: tokens, Wrap, moved, the bytes of names. No condition. -/
namespace Go.Proofs.Ytpinoobgnnlccaa.A
open Go Go.RowKit
set_option linter.unusedSimpArgs false
set_option linter.unusedVariables false
theorem size1 (w : World) (x : Obj) : (w.alloc x).heap.size = w.heap.size + 1 := by show (w.heap.push x).size = _; simp
theorem hidI {p : Prop} (h : p) : Hid p := h
theorem ret_b {a b : Bool} (h : a = b) : Ending.returned (.bool a) = .returned (.bool b) := by rw [h]
theorem wrap_v (n : Int) (w : World) : Calls Try.prog 48 #[.int .i64 n] w fun e w' => e = .returned (.int .i64 (wrp n)) ∧ w' = w := by
  go_enter Try.func48, Try.ntmps48
  go_wp2
  exact bodyPost_ret (v := .int .i64 (wrp n)) (by simp [results, Try.results48, go_sem, wrp]) rfl ⟨rfl, rfl⟩
theorem moved_v (c : Int) (s : ByteArray) (n m : Int) (w : World) : Calls Try.prog 53 #[.agg #[.int .i64 c, .string s, .int .i64 n], .int .i64 m] w fun e w' => e = .returned (.agg #[.int .i64 c, .string s, .int .i64 (wrp (wrap64 (n + m)))]) ∧ Below w.heap.size w w' := by
  go_enter Try.func53, Try.ntmps53
  go_wp2_with (go_at_call 48; refine (wrap_v _ _).mono ?_; rintro e w' ⟨rfl, rfl⟩)
  exact bodyPost_ret (v := .agg #[.int .i64 c, .string s, .int .i64 (wrp (wrap64 (n + m)))]) (by simp [results, Try.results53, go_sem]) rfl ⟨rfl, (Below.alloc (Below.refl _ w) (Nat.le_refl _) _).alloc (by rw [size1]; omega) _⟩
theorem letter_v (c : Int) (w : World) : Calls Try.prog 59 #[.int .u8 c] w fun e w' => e = .returned (.bool (letC c)) ∧ w' = w := by
  by_cases h1 : 97 ≤ c <;> by_cases h2 : c ≤ 122 <;> by_cases h3 : 65 ≤ c <;> by_cases h4 : c ≤ 90
  all_goals try (exfalso; omega)
  all_goals
    go_enter Try.func59, Try.ntmps59
    go_wp2
    go_ret
    exact ⟨ret_b (by rw [Bool.eq_iff_iff]; simp [letC]; omega), rfl⟩
theorem digit_v (c : Int) (w : World) : Calls Try.prog 60 #[.int .u8 c] w fun e w' => e = .returned (.bool (digC c)) ∧ w' = w := by
  by_cases h1 : 48 ≤ c <;> by_cases h2 : c ≤ 57
  all_goals try (exfalso; omega)
  all_goals
    go_enter Try.func60, Try.ntmps60
    go_wp2
    go_ret
    exact ⟨ret_b (by rw [Bool.eq_iff_iff]; simp [digC]; omega), rfl⟩
theorem nbyte_v (c : Int) (f : Bool) (w : World) : Calls Try.prog 45 #[.int .u8 c, .bool f] w fun e w' => e = .returned (.bool (nbC c f)) ∧ w' = w := by
  have HS : Hid (nbC c f = (letC c || c == 95 || c == 46 || c == 36 || (!f && digC c))) := rfl
  cases h0 : letC c <;> cases h1 : (c == 95) <;> cases h2 : (c == 46) <;> cases h3 : (c == 36) <;> cases f
  all_goals
    rw [h0, h1, h2, h3] at HS
    go_enter Try.func45, Try.ntmps45
    go_wp2_with (first | (go_at_call 59; refine (letter_v _ _).mono ?_; rintro e w' ⟨rfl, rfl⟩) | (go_at_call 60; refine (digit_v _ _).mono ?_; rintro e w' ⟨rfl, rfl⟩))
    go_ret
    exact ⟨ret_b (by rw [HS.out]; simp), rfl⟩
theorem nbyte0_v (c : Int) (w : World) : Calls Try.prog 62 #[.int .u8 c] w fun e w' => e = .returned (.bool (nbC c false)) ∧ w' = w := by
  go_enter Try.func62, Try.ntmps62
  go_wp2_with (go_at_call 45; refine (nbyte_v _ _ _).mono ?_; rintro e w' ⟨rfl, rfl⟩)
  go_ret
  exact ⟨rfl, rfl⟩
end Go.Proofs.Ytpinoobgnnlccaa.A

/- asmlex.run, name and Name: how many bytes of a name stand at the beginning; is a text a name. No condition. -/
namespace Go.Proofs.Ytpinoobgnnlccaa.A
open Go Go.RowKit
set_option linter.unusedSimpArgs false
set_option linter.unusedVariables false
def runS (s : ByteArray) : Nat := (s.data.toList.takeWhile nbU).length
theorem runS_le (s : ByteArray) : runS s ≤ s.size := by
  unfold runS; have := (List.takeWhile_prefix nbU (l := s.data.toList)).length_le; simpa using this
theorem run_at (l : List UInt8) (k : Nat) (h : k ≤ l.length) (ha : ∀ j (hj : j < l.length), j < k → nbU l[j] = true) (hn : ∀ (hj : k < l.length), nbU l[k] = false) : (l.takeWhile nbU).length = k := by
  induction l generalizing k with
  | nil => simp at h; simp [h]
  | cons c r ih =>
    cases k with
    | zero => have := hn (by simp); simp at this; simp [List.takeWhile_cons, this]
    | succ k =>
      have h0 := ha 0 (by simp) (by omega)
      simp at h0
      rw [List.takeWhile_cons, if_pos h0, List.length_cons, ih k (by simpa using h) (fun j hj hk => by have := ha (j + 1) (by simp; omega) (by omega); simpa using this) (fun hj => by have := hn (by simp; omega); simpa using this)]
set_option maxHeartbeats 400000 in
theorem run_v (s : ByteArray) (w : World) (hs : s.size ≤ 1000000000) : Calls Try.prog 61 #[.string s, .func (.func 62) #[] #[]] w fun e w' => e = .returned (.int .i64 (runS s : Nat)) ∧ w' = w := by
  go_enter Try.func61, Try.ntmps61
  go_wp2
  go_loop [5] (fun i => ∃ k : Nat, k ≤ s.size ∧ i = .int .i64 k ∧ Hid (∀ j (hj : j < s.data.toList.length), j < k → nbU s.data.toList[j] = true)) (fun i => s.size - (intOf i).toNat)
  case atStart => exact ⟨0, Nat.zero_le _, rfl, hidI (fun j _ h => by omega)⟩
  case round =>
    obtain ⟨k, hk, rfl, ha⟩ := hrel
    by_cases hlt : k < s.size
    · cases hp : nbC (s[k].toNat : Int) false
      · have hr : Hid (runS s = k) := run_at _ k (by simpa using hk) ha.out (fun hj => by show nbC _ _ = _; rw [Array.getElem_toList]; exact hp)
        clear ha
        go_wp2_with fail
        refine (nbyte0_v _ _).mono ?_
        rintro e w1 ⟨rfl, hw1⟩
        subst hw1
        go_wp2
        go_ret
        exact ⟨by rw [hr.out]; rfl, rfl⟩
      · have ha' : Hid (∀ j (hj : j < s.data.toList.length), j < k + 1 → nbU s.data.toList[j] = true) := hidI (fun j hj h => by
          rcases Nat.lt_succ_iff_lt_or_eq.mp h with h | h
          · exact ha.out j hj h
          · subst h; show nbC _ _ = _; rw [Array.getElem_toList]; exact hp)
        clear ha
        go_wp2_with fail
        refine (nbyte0_v _ _).mono ?_
        rintro e w1 ⟨rfl, hw1⟩
        subst hw1
        go_wp2
        go_round
        case rel => exact ⟨k + 1, by omega, by go_num, ha'⟩
        case measure => simp [intOf]; omega
    · have hr : Hid (runS s = k) := run_at _ k (by simpa using hk) ha.out (fun hj => by simp at hj; omega)
      clear ha
      go_wp2
      go_ret
      exact ⟨by rw [hr.out]; rfl, rfl⟩
end Go.Proofs.Ytpinoobgnnlccaa.A

/- Blocks of literal cells: loads, stores, allocs of structs. Conditions: the block holds such cells (RB). -/
namespace Go.Proofs.Ytpinoobgnnlccaa.A
open Go Go.RowKit
set_option linter.unusedSimpArgs false
set_option linter.unusedVariables false
/-! ### worlds -/
/-- Only block b may have turned, and no block has come. -/
structure Upd (w : World) (b : Nat) (w' : World) : Prop where
  os : w'.os = w.os
  tape : w'.tape = w.tape
  output : w'.output = w.output
  size : w'.heap.size = w.heap.size
  block : ∀ k, k ≠ b → w'.heap[k]? = w.heap[k]?
theorem Upd.refl (w : World) (b : Nat) : Upd w b w := ⟨rfl, rfl, rfl, rfl, fun _ _ => rfl⟩
theorem Upd.trans {a w w' : World} {b : Nat} (h : Upd a b w) (k : Upd w b w') : Upd a b w' :=
  ⟨k.os.trans h.os, k.tape.trans h.tape, k.output.trans h.output, k.size.trans h.size, fun i hi => (k.block i hi).trans (h.block i hi)⟩
theorem Upd.below {w w' : World} {b B : Nat} (h : Upd w b w') (hB : B ≤ b) : Below B w w' :=
  ⟨h.os, h.tape, h.output, Nat.le_of_eq h.size.symm, fun k hk => h.block k (by omega)⟩
theorem Upd.setCell (w : World) (b o : Nat) (v : Value) : Upd w b (w.setCell ⟨b, o, none⟩ v) :=
  ⟨rfl, rfl, rfl, by simp [World.setCell], fun k hk => Below.heap_setCell _ _ _ _ (by simpa using hk)⟩
theorem Upd.setCells (b : Nat) : ∀ (vs : List Value) (o : Nat) (w : World), Upd w b (w.setCells b o vs)
  | [], _, w => Upd.refl w b
  | v :: r, o, w => (Upd.setCell w b o v).trans (Upd.setCells b r (o + 1) _)
theorem setCells_blk (b : Nat) : ∀ (vs : List Value) (o : Nat) (w : World) (C : Array Value) (t : TypeId), w.heap[b]? = some (.cells C t (0, 0)) →
    ∃ C', (w.setCells b o vs).heap[b]? = some (.cells C' t (0, 0)) ∧ C'.size = C.size ∧ ∀ i, i < C.size → C'[i]? = if o ≤ i ∧ i < o + vs.length then vs[i - o]? else C[i]?
  | [], o, w, C, t, h => ⟨C, h, rfl, fun i hi => by rw [if_neg (by rintro ⟨h1, h2⟩; simp only [List.length_nil] at h2; omega)]⟩
  | v :: r, o, w, C, t, h => by
    have h1 := heap_setCell_same w b o C t v h
    obtain ⟨C', e1, e2, e3⟩ := setCells_blk b r (o + 1) _ _ t h1
    refine ⟨C', e1, by simpa using e2, fun i hi => ?_⟩
    rw [e3 i (by simpa using hi)]
    by_cases h0 : i = o
    · subst h0
      rw [if_neg (by omega), if_pos (by simp), Nat.sub_self]
      simp [hi]
    · by_cases h2 : o + 1 ≤ i ∧ i < o + 1 + r.length
      · rw [if_pos h2, if_pos (by simp; omega)]
        have : i - o = (i - (o + 1)) + 1 := by omega
        rw [this]; simp
      · rw [if_neg h2, if_neg (by simp; omega)]
        simp [Array.getElem?_setIfInBounds, Ne.symm h0]
/-- Block b holds the cells C. -/
def RB (w : World) (b : Nat) (t : TypeId) (C : Array Value) : Prop := w.heap[b]? = some (.cells C t (0, 0))
section
variable {w w' : World} {b c B : Nat} {t : TypeId} {C : Array Value}
theorem RB.lt (h : RB w b t C) : b < w.heap.size := by unfold RB at h; exact (Array.getElem?_eq_some_iff.1 h).1
theorem RB.cell (h : RB w b t C) (j : Nat) {v : Value} (hv : C[j]? = some v) : w.cell? ⟨b, j, none⟩ = some v := by rw [cell_of_row _ _ _ _ _ _ h, hv]
theorem RB.below (h : RB w b t C) (hb : Below B w w') (hlt : b < B) : RB w' b t C := by unfold RB at *; rw [hb.block b hlt]; exact h
theorem RB.alloc (h : RB w b t C) (x : Obj) : RB (w.alloc x) b t C := by
  unfold RB; show (w.heap.push x)[b]? = _; rw [Array.getElem?_push, if_neg (by have := h.lt; omega)]; exact h
theorem RB.upd (hk : RB w c t C) (h : Upd w b w') (hne : c ≠ b) : RB w' c t C := by unfold RB at *; rw [h.block c hne]; exact hk
theorem RB.new (w : World) (t : TypeId) (C : Array Value) : RB (w.alloc (.cells C t)) w.heap.size t C := heap_alloc_new w _
theorem RB.range (h : RB w b t C) : w.rangeAt b 0 C.toList := by
  intro j v hv
  rw [Array.getElem?_toList] at hv
  rw [cell_of_row _ _ _ _ _ _ h, Nat.zero_add]; exact hv
end
theorem there_blk {w : World} {b n : Nat} {t : TypeId} {C : Array Value} (hb : w.heap[b]? = some (.cells C t (0, 0))) (off : Nat) (h : off + n ≤ C.size) : w.there b off n := fun j hj => by
  refine ⟨?_, ?_⟩
  · rw [cell_of_row _ _ _ _ _ _ hb, Array.getElem?_eq_getElem (by omega)]; rfl
  · rw [frozen_of_row _ _ _ _ _ hb]
theorem RB.setCells {w : World} {b : Nat} {t : TypeId} {C D : Array Value} (h : RB w b t C) (hs : D.size = C.size) : RB (w.setCells b 0 D.toList) b t D := by
  obtain ⟨C', e1, e2, e3⟩ := setCells_blk b D.toList 0 w _ _ h
  unfold RB; rw [e1]
  have : C' = D := by
    apply Array.ext_getElem?; intro j
    by_cases hj : j < C.size
    · rw [e3 j hj, Array.length_toList, if_pos (by omega), Array.getElem?_toList, Nat.sub_zero]
    · rw [Array.getElem?_eq_none (by omega), Array.getElem?_eq_none (by omega)]
  rw [this]
section
variable {ops : Array Oper} {o : Oper} {rest : List Oper} {a : Act} {Q : Exit → Act → World → Prop} {w : World}
theorem st_storeR (T : TypeId) {b : Nat} {t : TypeId} {C D : Array Value} {x y : Operand} (hw : Region.wanted o (yielded ops a.tmps) = true) (ho : o.op = .store T x y) (hx : a.eval x = .pointer (some ⟨b, 0, none⟩)) (hy : a.eval y = .agg D) (hb : RB w b t C) (hs : D.size = C.size) (hi : (Try.prog.info? T).map (·.size) = some D.size) (h1 : D.all (·.oneCell') = true)
    (h : ∀ w', RB w' b t D → Upd w b w' → wpList Try.prog ops Q rest (a.put o.dst undef) w') : wpList Try.prog ops Q (o :: rest) a w := by
  refine wpList_step (fun K hK => ?_)
  rw [if_pos hw]
  exact wp_store_mid T x y ho b 0 D hx hy (there_blk hb _ (by omega)) hi h1 (hK _ _ (h _ (hb.setCells hs) (Upd.setCells b _ _ _)))
theorem st_loadR (T : TypeId) {b : Nat} {t : TypeId} {C : Array Value} {d : TypeDesc} {x : Operand} (hw : Region.wanted o (yielded ops a.tmps) = true) (ho : o.op = .load T x) (hx : a.eval x = .pointer (some ⟨b, 0, none⟩)) (hb : RB w b t C) (hu : Try.prog.underlying T = some d) (hd : d.isRow = true) (hi : (Try.prog.info? T).map (·.size) = some C.size)
    (h : wpList Try.prog ops Q rest (a.put o.dst (.agg C)) w) : wpList Try.prog ops Q (o :: rest) a w :=
  wpList_step (fun K hK => by rw [if_pos hw]; exact wp_load_mid T x ho b 0 hx C.toList _ hb.range hu hd (by rw [Array.length_toList]; exact hi) (hK _ _ h))
end
theorem RB.res2 {w : World} {b : Nat} {t T : TypeId} {C : Array Value} {v : Value} {d : TypeDesc} (h : RB w b t C) {fn : Func} {p q : Tmp} (hf : fn.results = #[.cell p T, .tmp q]) (tmps : Array Value) (hp : tmps.getD p undef = .pointer (some ⟨b, 0, none⟩)) (hq : tmps.getD q undef = v) (hu : Try.prog.underlying T = some d) (hd : d.isRow = true) (hi : (Try.prog.info? T).map (·.size) = some C.size) : (results fn tmps).run Try.prog w = .ok (.tuple #[.agg C, v]) w := by
  have e := run_loadVar_mid w b 0 T C.toList _ h.range hu hd (by rw [Array.length_toList]; exact hi)
  rw [results_cell_tmp hf, hp, hq]
  simp only [asAddr, Sem.run_pure, Result.andThen_ok, e]
end Go.Proofs.Ytpinoobgnnlccaa.A

/- asmlex.name and Name: is a text a name. Condition: the text has at most 1000000000 bytes. -/
namespace Go.Proofs.Ytpinoobgnnlccaa.A
open Go Go.RowKit
set_option linter.unusedSimpArgs false
set_option linter.unusedVariables false
theorem g_store (t : TypeId) {P : Program} {ops : Array Oper} {o : Oper} {rest : List Oper} {a : Act} {Q : Exit → Act → World → Prop} {w : World} {x y : Operand} (h : wpList P ops Q (o :: rest) a w) (ho : o.op = .store t x y) : wpList P ops Q (o :: rest) a w := h
theorem g_load (t : TypeId) {P : Program} {ops : Array Oper} {o : Oper} {rest : List Oper} {a : Act} {Q : Exit → Act → World → Prop} {w : World} {x : Operand} (h : wpList P ops Q (o :: rest) a w) (ho : o.op = .load t x) : wpList P ops Q (o :: rest) a w := h
theorem info24 : (Try.prog.info? 24).map (·.size) = some 3 := by kernel_rfl
theorem info54 : (Try.prog.info? 54).map (·.size) = some 3 := by kernel_rfl
theorem info38s : (Try.prog.info? 38).map (·.size) = some 4 := by kernel_rfl
theorem below_a {w w1 : World} (h : Below w.heap.size w w1) (x : Obj) : Below w.heap.size w (w1.alloc x) := h.alloc h.size x
theorem name_own (a0 : ByteArray) (r1 : Int) (r2 : ByteArray) (r3 r4 r5 r6 : Int) (w : World) (h : (if a0.size ≤ 1000000000 then (if 14 < runS a0 then some ((0 : Int), (⟨#[]⟩ : ByteArray), (0 : Int), (0 : Int), (0 : Int), (7 : Int)) else some (1, a0.extract 0 (runS a0), 0, 0, (runS a0 : Int), 0)) else none) = some (r1, r2, r3, r4, r5, r6)) :
    Calls Try.prog 46 #[.string a0] w fun e w' => e = .returned (.tuple #[.agg #[.int .i64 r1, .string r2, .int .i64 r3, .int .i64 r4], .int .i64 r5, .int .i64 r6]) ∧ Below w.heap.size w w' := by
  have hr := runS_le a0
  by_cases hs : a0.size ≤ 1000000000
  · rw [if_pos hs] at h
    by_cases h2 : 14 < runS a0
    · rw [if_pos h2] at h
      simp only [Option.some.injEq, Prod.mk.injEq] at h
      obtain ⟨rfl, rfl, rfl, rfl, rfl, rfl⟩ := h
      go_enter Try.func46, Try.ntmps46
      go_wp2_with (go_at_call 61; refine (run_v _ _ hs).mono ?_; rintro e w1 ⟨rfl, rfl⟩)
      exact bodyPost_ret (v := .tuple #[.agg #[.int .i64 0, .string ⟨#[]⟩, .int .i64 0, .int .i64 0], .int .i64 0, .int .i64 7]) (by simp [results, Try.results46, go_sem]) rfl ⟨rfl, below_a (Below.refl w.heap.size w) _⟩
    · rw [if_neg h2] at h
      simp only [Option.some.injEq, Prod.mk.injEq] at h
      obtain ⟨rfl, rfl, rfl, rfl, rfl, rfl⟩ := h
      go_enter Try.func46, Try.ntmps46
      go_wp2_with (go_at_call 61; refine (run_v _ _ hs).mono ?_; rintro e w1 ⟨rfl, rfl⟩)
      exact bodyPost_ret (v := .tuple #[.agg #[.int .i64 1, .string (a0.extract 0 (runS a0)), .int .i64 0, .int .i64 0], .int .i64 (runS a0 : Nat), .int .i64 0]) (by simp [results, Try.results46, go_sem]) rfl ⟨rfl, below_a (Below.refl w.heap.size w) _⟩
  · rw [if_neg hs] at h; cases h
end Go.Proofs.Ytpinoobgnnlccaa.A

/- The operations on values. No condition. -/
namespace Go.Proofs.Ytpinoobgnnlccaa.A
open Go Go.RowKit
set_option linter.unusedSimpArgs false
set_option linter.unusedVariables false
open Go.Proofs.YtpinoobgnnlccaaW.PrintWords Go.Proofs.YtpinoobgnnlccaaW.PrintLast Go.Proofs.YtpinoobgnnlccaaW.PrintMore
attribute [local go_sem] max2_int min2_int max_two min_two
abbrev vv (x : VV) : Value := .agg #[.int .i64 x.1, .string x.2.1, .int .i64 x.2.2]
abbrev vr (r : VE) : Value := .tuple #[vv r.1, .int .i64 r.2]
theorem add_v (a b : VV) (w : World) : Calls Try.prog 39 #[vv a, vv b] w fun e w' => e = .returned (vr (addS a b)) ∧ Below w.heap.size w w' := by
  obtain ⟨ac, sa, an⟩ := a
  obtain ⟨bc, sb, bn⟩ := b
  by_cases h : bc = 0
  · have HS : Hid (addS ⟨ac, sa, an⟩ ⟨bc, sb, bn⟩ = (⟨ac, sa, wrp (wrap64 (an + bn))⟩, 0)) := by unfold Hid addS; rw [if_pos h]
    have hb0 : (bc == 0) = true := by simpa using h
    clear h
    have hz0 := RB.new ((w.alloc (.cells #[.int .i64 ac, .string sa, .int .i64 an] 54)).alloc (.cells #[.int .i64 bc, .string sb, .int .i64 bn] 54)) 54 #[.int .i64 0, .string ⟨#[]⟩, .int .i64 0]
    rw [size1, size1] at hz0
    have HB0 := hidI (((Below.alloc (Below.refl w.heap.size w) (Nat.le_refl _) (.cells #[.int .i64 ac, .string sa, .int .i64 an] 54)).alloc (by rw [size1]; omega) (.cells #[.int .i64 bc, .string sb, .int .i64 bn] 54)).alloc (by rw [size1, size1]; omega) (.cells #[.int .i64 0, .string ⟨#[]⟩, .int .i64 0] 54))
    go_enter Try.func39, Try.ntmps39
    go_wp2_with (first
      | (go_at_call 53; refine (moved_v _ _ _ _ _).mono ?_; rintro e w1 ⟨rfl, hb⟩; have hz1 := hz0.below hb hz0.lt; have HB1 := hidI (HB0.out.trans (hb.mono HB0.out.size)); clear hb HB0 hz0)
      | ((with_reducible refine g_store 54 ?_ rfl); refine st_storeR 54 (by rfl) rfl rfl rfl hz1 rfl info54 (by simp [Value.oneCell']) ?_; intro w2 hz2 hu; have HB2 := hidI (HB1.out.trans (hu.below (by omega))); clear hz1 HB1 hu))
    exact bodyPost_ret (hz2.res2 (v := .int .i64 0) rfl _ rfl rfl Try.underlying54 rfl info54) rfl ⟨by rw [HS.out]; try rfl, HB2.out⟩
  · have hb0 : (bc == 0) = false := by simpa using h
    by_cases h2 : ac = 0
    · have ha0 : (ac == 0) = true := by simpa using h2
      have HS : Hid (addS ⟨ac, sa, an⟩ ⟨bc, sb, bn⟩ = (⟨bc, sb, wrp (wrap64 (bn + an))⟩, 0)) := by unfold Hid addS; rw [if_neg h, if_pos h2]
      clear h h2
      have hz0 := RB.new ((w.alloc (.cells #[.int .i64 ac, .string sa, .int .i64 an] 54)).alloc (.cells #[.int .i64 bc, .string sb, .int .i64 bn] 54)) 54 #[.int .i64 0, .string ⟨#[]⟩, .int .i64 0]
      rw [size1, size1] at hz0
      have HB0 := hidI (((Below.alloc (Below.refl w.heap.size w) (Nat.le_refl _) (.cells #[.int .i64 ac, .string sa, .int .i64 an] 54)).alloc (by rw [size1]; omega) (.cells #[.int .i64 bc, .string sb, .int .i64 bn] 54)).alloc (by rw [size1, size1]; omega) (.cells #[.int .i64 0, .string ⟨#[]⟩, .int .i64 0] 54))
      go_enter Try.func39, Try.ntmps39
      go_wp2_with (first
        | (go_at_call 53; refine (moved_v _ _ _ _ _).mono ?_; rintro e w1 ⟨rfl, hb⟩; have hz1 := hz0.below hb hz0.lt; have HB1 := hidI (HB0.out.trans (hb.mono HB0.out.size)); clear hb HB0 hz0)
        | ((with_reducible refine g_store 54 ?_ rfl); refine st_storeR 54 (by rfl) rfl rfl rfl hz1 rfl info54 (by simp [Value.oneCell']) ?_; intro w2 hz2 hu; have HB2 := hidI (HB1.out.trans (hu.below (by omega))); clear hz1 HB1 hu))
      exact bodyPost_ret (hz2.res2 (v := .int .i64 0) rfl _ rfl rfl Try.underlying54 rfl info54) rfl ⟨by rw [HS.out]; try rfl, HB2.out⟩
    · have ha0 : (ac == 0) = false := by simpa using h2
      have HS : Hid (addS ⟨ac, sa, an⟩ ⟨bc, sb, bn⟩ = (v0, 22)) := by unfold Hid addS; rw [if_neg h, if_neg h2]; rfl
      clear h h2
      have hz0 := RB.new ((w.alloc (.cells #[.int .i64 ac, .string sa, .int .i64 an] 54)).alloc (.cells #[.int .i64 bc, .string sb, .int .i64 bn] 54)) 54 #[.int .i64 0, .string ⟨#[]⟩, .int .i64 0]
      rw [size1, size1] at hz0
      have HB0 := hidI (((Below.alloc (Below.refl w.heap.size w) (Nat.le_refl _) (.cells #[.int .i64 ac, .string sa, .int .i64 an] 54)).alloc (by rw [size1]; omega) (.cells #[.int .i64 bc, .string sb, .int .i64 bn] 54)).alloc (by rw [size1, size1]; omega) (.cells #[.int .i64 0, .string ⟨#[]⟩, .int .i64 0] 54))
      go_enter Try.func39, Try.ntmps39
      go_wp2_with (first
        | ((with_reducible refine g_store 54 ?_ rfl); refine st_storeR 54 (by rfl) rfl rfl rfl hz0 rfl info54 (by simp [Value.oneCell']) ?_; intro w2 hz2 hu; have HB2 := hidI (HB0.out.trans (hu.below (by omega))); clear hz0 HB0 hu))
      exact bodyPost_ret (hz2.res2 (v := .int .i64 22) rfl _ rfl rfl Try.underlying54 rfl info54) rfl ⟨by rw [HS.out]; try rfl, HB2.out⟩
theorem sub_v (a b : VV) (w : World) : Calls Try.prog 40 #[vv a, vv b] w fun e w' => e = .returned (vr (subS a b)) ∧ Below w.heap.size w w' := by
  obtain ⟨ac, sa, an⟩ := a
  obtain ⟨bc, sb, bn⟩ := b
  by_cases h : bc = 0
  · have HS : Hid (subS ⟨ac, sa, an⟩ ⟨bc, sb, bn⟩ = (⟨ac, sa, wrp (wrap64 (an + wrap64 (-bn)))⟩, 0)) := by unfold Hid subS; rw [if_pos h]
    have hb0 : (bc == 0) = true := by simpa using h
    clear h
    have hz0 := RB.new ((w.alloc (.cells #[.int .i64 ac, .string sa, .int .i64 an] 54)).alloc (.cells #[.int .i64 bc, .string sb, .int .i64 bn] 54)) 54 #[.int .i64 0, .string ⟨#[]⟩, .int .i64 0]
    rw [size1, size1] at hz0
    have HB0 := hidI (((Below.alloc (Below.refl w.heap.size w) (Nat.le_refl _) (.cells #[.int .i64 ac, .string sa, .int .i64 an] 54)).alloc (by rw [size1]; omega) (.cells #[.int .i64 bc, .string sb, .int .i64 bn] 54)).alloc (by rw [size1, size1]; omega) (.cells #[.int .i64 0, .string ⟨#[]⟩, .int .i64 0] 54))
    go_enter Try.func40, Try.ntmps40
    go_wp2_with (first
      | (go_at_call 53; refine (moved_v _ _ _ _ _).mono ?_; rintro e w1 ⟨rfl, hb⟩; have hz1 := hz0.below hb hz0.lt; have HB1 := hidI (HB0.out.trans (hb.mono HB0.out.size)); clear hb HB0 hz0)
      | ((with_reducible refine g_store 54 ?_ rfl); refine st_storeR 54 (by rfl) rfl rfl rfl hz1 rfl info54 (by simp [Value.oneCell']) ?_; intro w2 hz2 hu; have HB2 := hidI (HB1.out.trans (hu.below (by omega))); clear hz1 HB1 hu))
    exact bodyPost_ret (hz2.res2 (v := .int .i64 0) rfl _ rfl rfl Try.underlying54 rfl info54) rfl ⟨by rw [HS.out]; try rfl, HB2.out⟩
  · have hb0 : (bc == 0) = false := by simpa using h
    by_cases h2 : ac = bc
    · have ha0 : (ac == bc) = true := by simpa using h2
      by_cases h3 : ac = 4
      · have ha4 : (ac != 4) = false := by simpa using h3
        have HS : Hid (subS ⟨ac, sa, an⟩ ⟨bc, sb, bn⟩ = (v0, 22)) := by unfold Hid subS; rw [if_neg h, if_neg (fun g => g.2 h3)]; rfl
        clear h h2 h3
        have hz0 := RB.new ((w.alloc (.cells #[.int .i64 ac, .string sa, .int .i64 an] 54)).alloc (.cells #[.int .i64 bc, .string sb, .int .i64 bn] 54)) 54 #[.int .i64 0, .string ⟨#[]⟩, .int .i64 0]
        rw [size1, size1] at hz0
        have HB0 := hidI (((Below.alloc (Below.refl w.heap.size w) (Nat.le_refl _) (.cells #[.int .i64 ac, .string sa, .int .i64 an] 54)).alloc (by rw [size1]; omega) (.cells #[.int .i64 bc, .string sb, .int .i64 bn] 54)).alloc (by rw [size1, size1]; omega) (.cells #[.int .i64 0, .string ⟨#[]⟩, .int .i64 0] 54))
        go_enter Try.func40, Try.ntmps40
        go_wp2_with (first
          | ((with_reducible refine g_store 54 ?_ rfl); refine st_storeR 54 (by rfl) rfl rfl rfl hz0 rfl info54 (by simp [Value.oneCell']) ?_; intro w2 hz2 hu; have HB2 := hidI (HB0.out.trans (hu.below (by omega))); clear hz0 HB0 hu))
        exact bodyPost_ret (hz2.res2 (v := .int .i64 22) rfl _ rfl rfl Try.underlying54 rfl info54) rfl ⟨by rw [HS.out]; try rfl, HB2.out⟩
      · have ha4 : (ac != 4) = true := by simpa using h3
        have HS : Hid (subS ⟨ac, sa, an⟩ ⟨bc, sb, bn⟩ = (⟨0, ⟨#[]⟩, wrp (wrap64 (an - bn))⟩, 0)) := by unfold Hid subS; rw [if_neg h, if_pos ⟨h2, h3⟩]
        clear h h2 h3
        have hz0 := RB.new ((w.alloc (.cells #[.int .i64 ac, .string sa, .int .i64 an] 54)).alloc (.cells #[.int .i64 bc, .string sb, .int .i64 bn] 54)) 54 #[.int .i64 0, .string ⟨#[]⟩, .int .i64 0]
        rw [size1, size1] at hz0
        have HB0 := hidI (((Below.alloc (Below.refl w.heap.size w) (Nat.le_refl _) (.cells #[.int .i64 ac, .string sa, .int .i64 an] 54)).alloc (by rw [size1]; omega) (.cells #[.int .i64 bc, .string sb, .int .i64 bn] 54)).alloc (by rw [size1, size1]; omega) (.cells #[.int .i64 0, .string ⟨#[]⟩, .int .i64 0] 54))
        go_enter Try.func40, Try.ntmps40
        go_wp2_with (first
          | (go_at_call 48; refine (wrap_v _ _).mono ?_; rintro e w1 ⟨rfl, rfl⟩)
          | ((with_reducible refine g_store 54 ?_ rfl); refine st_storeR 54 (by rfl) rfl rfl rfl hz0 rfl info54 (by simp [Value.oneCell']) ?_; intro w2 hz2 hu; have HB2 := hidI (HB0.out.trans (hu.below (by omega))); clear hz0 HB0 hu))
        exact bodyPost_ret (hz2.res2 (v := .int .i64 0) rfl _ rfl rfl Try.underlying54 rfl info54) rfl ⟨by rw [HS.out]; try rfl, HB2.out⟩
    · have ha0 : (ac == bc) = false := by simpa using h2
      have HS : Hid (subS ⟨ac, sa, an⟩ ⟨bc, sb, bn⟩ = (v0, 22)) := by unfold Hid subS; rw [if_neg h, if_neg (fun g => h2 g.1)]; rfl
      clear h h2
      have hz0 := RB.new ((w.alloc (.cells #[.int .i64 ac, .string sa, .int .i64 an] 54)).alloc (.cells #[.int .i64 bc, .string sb, .int .i64 bn] 54)) 54 #[.int .i64 0, .string ⟨#[]⟩, .int .i64 0]
      rw [size1, size1] at hz0
      have HB0 := hidI (((Below.alloc (Below.refl w.heap.size w) (Nat.le_refl _) (.cells #[.int .i64 ac, .string sa, .int .i64 an] 54)).alloc (by rw [size1]; omega) (.cells #[.int .i64 bc, .string sb, .int .i64 bn] 54)).alloc (by rw [size1, size1]; omega) (.cells #[.int .i64 0, .string ⟨#[]⟩, .int .i64 0] 54))
      go_enter Try.func40, Try.ntmps40
      go_wp2_with (first
        | ((with_reducible refine g_store 54 ?_ rfl); refine st_storeR 54 (by rfl) rfl rfl rfl hz0 rfl info54 (by simp [Value.oneCell']) ?_; intro w2 hz2 hu; have HB2 := hidI (HB0.out.trans (hu.below (by omega))); clear hz0 HB0 hu))
      exact bodyPost_ret (hz2.res2 (v := .int .i64 22) rfl _ rfl rfl Try.underlying54 rfl info54) rfl ⟨by rw [HS.out]; try rfl, HB2.out⟩
theorem clos55_v (x y : Int) (w : World) : Calls Try.prog 55 #[.int .i64 x, .int .i64 y] w fun e w' => e = .returned (.int .i64 (mulF x y)) ∧ w' = w := by
  go_enter Try.func55, Try.ntmps55
  go_wp2
  go_ret
  exact ⟨rfl, rfl⟩
theorem num55_v (a b : VV) (w : World) : Calls Try.prog 54 #[vv a, vv b, .func (.func 55) #[] #[]] w fun e w' => e = .returned (vr (numS mulF a b)) ∧ Below w.heap.size w w' := by
  obtain ⟨ac, sa, an⟩ := a
  obtain ⟨bc, sb, bn⟩ := b
  by_cases h : ac = 0
  · by_cases h2 : bc = 0
    · have HS : Hid (numS mulF (ac, sa, an) (bc, sb, bn) = ((0, ⟨#[]⟩, wrp (mulF an bn)), 0)) := by unfold Hid numS; rw [if_neg (by simp [h, h2])]
      have hb0 : (ac != 0) = false := by simpa using h
      have hb1 : (bc != 0) = false := by simpa using h2
      clear h h2
      go_enter Try.func54, Try.ntmps54
      go_wp2_with fail
      refine (clos55_v _ _ _).mono ?_
      rintro e w1 ⟨rfl, hw1⟩
      subst hw1
      go_wp2_with (go_at_call 48; refine (wrap_v _ _).mono ?_; rintro e w1 ⟨rfl, rfl⟩)
      exact bodyPost_ret (v := .tuple #[.agg #[.int .i64 0, .string ⟨#[]⟩, .int .i64 (wrp (mulF an bn))], .int .i64 0]) (by simp [results, Try.results54, go_sem]) rfl ⟨by rw [HS.out]; try rfl, below_a (below_a (below_a (Below.refl w.heap.size w) _) _) _⟩
    · have HS : Hid (numS mulF (ac, sa, an) (bc, sb, bn) = ve 22) := by unfold Hid numS; rw [if_pos (Or.inr h2)]
      have hb0 : (ac != 0) = false := by simpa using h
      have hb1 : (bc != 0) = true := by simpa using h2
      clear h h2
      go_enter Try.func54, Try.ntmps54
      go_wp2_with fail
      exact bodyPost_ret (v := .tuple #[.agg #[.int .i64 0, .string ⟨#[]⟩, .int .i64 0], .int .i64 22]) (by simp [results, Try.results54, go_sem]) rfl ⟨by rw [HS.out]; try rfl, below_a (below_a (below_a (Below.refl w.heap.size w) _) _) _⟩
  · have HS : Hid (numS mulF (ac, sa, an) (bc, sb, bn) = ve 22) := by unfold Hid numS; rw [if_pos (Or.inl h)]
    have hb0 : (ac != 0) = true := by simpa using h
    clear h
    go_enter Try.func54, Try.ntmps54
    go_wp2_with fail
    exact bodyPost_ret (v := .tuple #[.agg #[.int .i64 0, .string ⟨#[]⟩, .int .i64 0], .int .i64 22]) (by simp [results, Try.results54, go_sem]) rfl ⟨by rw [HS.out]; try rfl, below_a (below_a (below_a (Below.refl w.heap.size w) _) _) _⟩
theorem mul_v (a b : VV) (w : World) : Calls Try.prog 41 #[vv a, vv b] w fun e w' => e = .returned (vr (numS mulF a b)) ∧ Below w.heap.size w w' := by
  obtain ⟨ac, sa, an⟩ := a
  obtain ⟨bc, sb, bn⟩ := b
  have hz0 := RB.new ((w.alloc (.cells #[.int .i64 ac, .string sa, .int .i64 an] 54)).alloc (.cells #[.int .i64 bc, .string sb, .int .i64 bn] 54)) 54 #[.int .i64 0, .string ⟨#[]⟩, .int .i64 0]
  rw [size1, size1] at hz0
  have HB0 := hidI (((Below.alloc (Below.refl w.heap.size w) (Nat.le_refl _) (.cells #[.int .i64 ac, .string sa, .int .i64 an] 54)).alloc (by rw [size1]; omega) (.cells #[.int .i64 bc, .string sb, .int .i64 bn] 54)).alloc (by rw [size1, size1]; omega) (.cells #[.int .i64 0, .string ⟨#[]⟩, .int .i64 0] 54))
  go_enter Try.func41, Try.ntmps41
  go_wp2_with (first
    | (go_at_call 54; refine (num55_v (ac, sa, an) (bc, sb, bn) _).mono ?_; rintro e w1 ⟨rfl, hb⟩; have hz1 := hz0.below hb hz0.lt; have HB1 := hidI (HB0.out.trans (hb.mono HB0.out.size)); clear hb HB0 hz0)
    | ((with_reducible refine g_store 54 ?_ rfl); refine st_storeR 54 (by rfl) rfl rfl rfl hz1 rfl info54 (by simp [Value.oneCell']) ?_; intro w2 hz2 hu; have HB2 := hidI (HB1.out.trans (hu.below (by omega))); clear hz1 HB1 hu))
  exact bodyPost_ret (hz2.res2 (v := .int .i64 (numS mulF (ac, sa, an) (bc, sb, bn)).2) rfl _ rfl rfl Try.underlying54 rfl info54) rfl ⟨rfl, HB2.out⟩
theorem clos56_v (x y : Int) (w : World) : Calls Try.prog 56 #[.int .i64 x, .int .i64 y] w fun e w' => e = .returned (.int .i64 (divF x y)) ∧ w' = w := by
  have H1 : Hid (y < 1 → divF x y = wrap64 x) := fun h => by unfold divF; rw [if_pos h]; simp
  have H2 : Hid (1 ≤ y → divF x y = wrap64 (x.tdiv y)) := fun h => by unfold divF; rw [if_neg (by omega)]
  go_enter Try.func56, Try.ntmps56
  go_wp2
  · go_ret
    exact ⟨by rw [H1.out (by assumption)]; rfl, rfl⟩
  · go_ret
    exact ⟨by rw [H2.out (by assumption)]; rfl, rfl⟩
theorem num56_v (a b : VV) (w : World) : Calls Try.prog 54 #[vv a, vv b, .func (.func 56) #[] #[]] w fun e w' => e = .returned (vr (numS divF a b)) ∧ Below w.heap.size w w' := by
  obtain ⟨ac, sa, an⟩ := a
  obtain ⟨bc, sb, bn⟩ := b
  by_cases h : ac = 0
  · by_cases h2 : bc = 0
    · have HS : Hid (numS divF (ac, sa, an) (bc, sb, bn) = ((0, ⟨#[]⟩, wrp (divF an bn)), 0)) := by unfold Hid numS; rw [if_neg (by simp [h, h2])]
      have hb0 : (ac != 0) = false := by simpa using h
      have hb1 : (bc != 0) = false := by simpa using h2
      clear h h2
      go_enter Try.func54, Try.ntmps54
      go_wp2_with fail
      refine (clos56_v _ _ _).mono ?_
      rintro e w1 ⟨rfl, hw1⟩
      subst hw1
      go_wp2_with (go_at_call 48; refine (wrap_v _ _).mono ?_; rintro e w1 ⟨rfl, rfl⟩)
      exact bodyPost_ret (v := .tuple #[.agg #[.int .i64 0, .string ⟨#[]⟩, .int .i64 (wrp (divF an bn))], .int .i64 0]) (by simp [results, Try.results54, go_sem]) rfl ⟨by rw [HS.out]; try rfl, below_a (below_a (below_a (Below.refl w.heap.size w) _) _) _⟩
    · have HS : Hid (numS divF (ac, sa, an) (bc, sb, bn) = ve 22) := by unfold Hid numS; rw [if_pos (Or.inr h2)]
      have hb0 : (ac != 0) = false := by simpa using h
      have hb1 : (bc != 0) = true := by simpa using h2
      clear h h2
      go_enter Try.func54, Try.ntmps54
      go_wp2_with fail
      exact bodyPost_ret (v := .tuple #[.agg #[.int .i64 0, .string ⟨#[]⟩, .int .i64 0], .int .i64 22]) (by simp [results, Try.results54, go_sem]) rfl ⟨by rw [HS.out]; try rfl, below_a (below_a (below_a (Below.refl w.heap.size w) _) _) _⟩
  · have HS : Hid (numS divF (ac, sa, an) (bc, sb, bn) = ve 22) := by unfold Hid numS; rw [if_pos (Or.inl h)]
    have hb0 : (ac != 0) = true := by simpa using h
    clear h
    go_enter Try.func54, Try.ntmps54
    go_wp2_with fail
    exact bodyPost_ret (v := .tuple #[.agg #[.int .i64 0, .string ⟨#[]⟩, .int .i64 0], .int .i64 22]) (by simp [results, Try.results54, go_sem]) rfl ⟨by rw [HS.out]; try rfl, below_a (below_a (below_a (Below.refl w.heap.size w) _) _) _⟩
theorem div_v (a b : VV) (w : World) : Calls Try.prog 42 #[vv a, vv b] w fun e w' => e = .returned (vr (divS a b)) ∧ Below w.heap.size w w' := by
  obtain ⟨ac, sa, an⟩ := a
  obtain ⟨bc, sb, bn⟩ := b
  by_cases h : ac = 0
  · have hb0 : (ac == 0) = true := by simpa using h
    by_cases h2 : bc = 0
    · have hb1 : (bc == 0) = true := by simpa using h2
      by_cases h3 : bn = 0
      · have HS : Hid (divS (ac, sa, an) (bc, sb, bn) = ve 2) := by unfold Hid divS; rw [if_pos ⟨h, h2, h3⟩]
        have hb2 : (bn == 0) = true := by simpa using h3
        clear h h2 h3
        go_enter Try.func42, Try.ntmps42
        go_wp2_with fail
        exact bodyPost_ret (v := .tuple #[.agg #[.int .i64 0, .string ⟨#[]⟩, .int .i64 0], .int .i64 2]) (by simp [results, Try.results42, go_sem]) rfl ⟨by rw [HS.out]; try rfl, below_a (below_a (below_a (Below.refl w.heap.size w) _) _) _⟩
      · have HS : Hid (divS (ac, sa, an) (bc, sb, bn) = numS divF (ac, sa, an) (bc, sb, bn)) := by unfold Hid divS; rw [if_neg (fun g => h3 g.2.2)]
        have hb2 : (bn == 0) = false := by simpa using h3
        clear h h2 h3
        have hz0 := RB.new ((w.alloc (.cells #[.int .i64 ac, .string sa, .int .i64 an] 54)).alloc (.cells #[.int .i64 bc, .string sb, .int .i64 bn] 54)) 54 #[.int .i64 0, .string ⟨#[]⟩, .int .i64 0]
        rw [size1, size1] at hz0
        have HB0 := hidI (((Below.alloc (Below.refl w.heap.size w) (Nat.le_refl _) (.cells #[.int .i64 ac, .string sa, .int .i64 an] 54)).alloc (by rw [size1]; omega) (.cells #[.int .i64 bc, .string sb, .int .i64 bn] 54)).alloc (by rw [size1, size1]; omega) (.cells #[.int .i64 0, .string ⟨#[]⟩, .int .i64 0] 54))
        go_enter Try.func42, Try.ntmps42
        go_wp2_with (first
          | (go_at_call 54; refine (num56_v (ac, sa, an) (bc, sb, bn) _).mono ?_; rintro e w1 ⟨rfl, hb⟩; have hz1 := hz0.below hb hz0.lt; have HB1 := hidI (HB0.out.trans (hb.mono HB0.out.size)); clear hb HB0 hz0)
          | ((with_reducible refine g_store 54 ?_ rfl); refine st_storeR 54 (by rfl) rfl rfl rfl hz1 rfl info54 (by simp [Value.oneCell']) ?_; intro w2 hz2 hu; have HB2 := hidI (HB1.out.trans (hu.below (by omega))); clear hz1 HB1 hu))
        exact bodyPost_ret (hz2.res2 (v := .int .i64 (numS divF (ac, sa, an) (bc, sb, bn)).2) rfl _ rfl rfl Try.underlying54 rfl info54) rfl ⟨by rw [HS.out]; try rfl, HB2.out⟩
    · have HS : Hid (divS (ac, sa, an) (bc, sb, bn) = numS divF (ac, sa, an) (bc, sb, bn)) := by unfold Hid divS; rw [if_neg (fun g => h2 g.2.1)]
      have hb1 : (bc == 0) = false := by simpa using h2
      clear h h2
      have hz0 := RB.new ((w.alloc (.cells #[.int .i64 ac, .string sa, .int .i64 an] 54)).alloc (.cells #[.int .i64 bc, .string sb, .int .i64 bn] 54)) 54 #[.int .i64 0, .string ⟨#[]⟩, .int .i64 0]
      rw [size1, size1] at hz0
      have HB0 := hidI (((Below.alloc (Below.refl w.heap.size w) (Nat.le_refl _) (.cells #[.int .i64 ac, .string sa, .int .i64 an] 54)).alloc (by rw [size1]; omega) (.cells #[.int .i64 bc, .string sb, .int .i64 bn] 54)).alloc (by rw [size1, size1]; omega) (.cells #[.int .i64 0, .string ⟨#[]⟩, .int .i64 0] 54))
      go_enter Try.func42, Try.ntmps42
      go_wp2_with (first
        | (go_at_call 54; refine (num56_v (ac, sa, an) (bc, sb, bn) _).mono ?_; rintro e w1 ⟨rfl, hb⟩; have hz1 := hz0.below hb hz0.lt; have HB1 := hidI (HB0.out.trans (hb.mono HB0.out.size)); clear hb HB0 hz0)
        | ((with_reducible refine g_store 54 ?_ rfl); refine st_storeR 54 (by rfl) rfl rfl rfl hz1 rfl info54 (by simp [Value.oneCell']) ?_; intro w2 hz2 hu; have HB2 := hidI (HB1.out.trans (hu.below (by omega))); clear hz1 HB1 hu))
      exact bodyPost_ret (hz2.res2 (v := .int .i64 (numS divF (ac, sa, an) (bc, sb, bn)).2) rfl _ rfl rfl Try.underlying54 rfl info54) rfl ⟨by rw [HS.out]; try rfl, HB2.out⟩
  · have HS : Hid (divS (ac, sa, an) (bc, sb, bn) = numS divF (ac, sa, an) (bc, sb, bn)) := by unfold Hid divS; rw [if_neg (fun g => h g.1)]
    have hb0 : (ac == 0) = false := by simpa using h
    clear h
    have hz0 := RB.new ((w.alloc (.cells #[.int .i64 ac, .string sa, .int .i64 an] 54)).alloc (.cells #[.int .i64 bc, .string sb, .int .i64 bn] 54)) 54 #[.int .i64 0, .string ⟨#[]⟩, .int .i64 0]
    rw [size1, size1] at hz0
    have HB0 := hidI (((Below.alloc (Below.refl w.heap.size w) (Nat.le_refl _) (.cells #[.int .i64 ac, .string sa, .int .i64 an] 54)).alloc (by rw [size1]; omega) (.cells #[.int .i64 bc, .string sb, .int .i64 bn] 54)).alloc (by rw [size1, size1]; omega) (.cells #[.int .i64 0, .string ⟨#[]⟩, .int .i64 0] 54))
    go_enter Try.func42, Try.ntmps42
    go_wp2_with (first
      | (go_at_call 54; refine (num56_v (ac, sa, an) (bc, sb, bn) _).mono ?_; rintro e w1 ⟨rfl, hb⟩; have hz1 := hz0.below hb hz0.lt; have HB1 := hidI (HB0.out.trans (hb.mono HB0.out.size)); clear hb HB0 hz0)
      | ((with_reducible refine g_store 54 ?_ rfl); refine st_storeR 54 (by rfl) rfl rfl rfl hz1 rfl info54 (by simp [Value.oneCell']) ?_; intro w2 hz2 hu; have HB2 := hidI (HB1.out.trans (hu.below (by omega))); clear hz1 HB1 hu))
    exact bodyPost_ret (hz2.res2 (v := .int .i64 (numS divF (ac, sa, an) (bc, sb, bn)).2) rfl _ rfl rfl Try.underlying54 rfl info54) rfl ⟨by rw [HS.out]; try rfl, HB2.out⟩
theorem clos57_v (x y : Int) (w : World) : Calls Try.prog 57 #[.int .i64 x, .int .i64 y] w fun e w' => e = .returned (.int .i64 (andF x y)) ∧ w' = w := by
  go_enter Try.func57, Try.ntmps57
  go_wp2
  go_ret
  exact ⟨rfl, rfl⟩
theorem num57_v (a b : VV) (w : World) : Calls Try.prog 54 #[vv a, vv b, .func (.func 57) #[] #[]] w fun e w' => e = .returned (vr (numS andF a b)) ∧ Below w.heap.size w w' := by
  obtain ⟨ac, sa, an⟩ := a
  obtain ⟨bc, sb, bn⟩ := b
  by_cases h : ac = 0
  · by_cases h2 : bc = 0
    · have HS : Hid (numS andF (ac, sa, an) (bc, sb, bn) = ((0, ⟨#[]⟩, wrp (andF an bn)), 0)) := by unfold Hid numS; rw [if_neg (by simp [h, h2])]
      have hb0 : (ac != 0) = false := by simpa using h
      have hb1 : (bc != 0) = false := by simpa using h2
      clear h h2
      go_enter Try.func54, Try.ntmps54
      go_wp2_with fail
      refine (clos57_v _ _ _).mono ?_
      rintro e w1 ⟨rfl, hw1⟩
      subst hw1
      go_wp2_with (go_at_call 48; refine (wrap_v _ _).mono ?_; rintro e w1 ⟨rfl, rfl⟩)
      exact bodyPost_ret (v := .tuple #[.agg #[.int .i64 0, .string ⟨#[]⟩, .int .i64 (wrp (andF an bn))], .int .i64 0]) (by simp [results, Try.results54, go_sem]) rfl ⟨by rw [HS.out]; try rfl, below_a (below_a (below_a (Below.refl w.heap.size w) _) _) _⟩
    · have HS : Hid (numS andF (ac, sa, an) (bc, sb, bn) = ve 22) := by unfold Hid numS; rw [if_pos (Or.inr h2)]
      have hb0 : (ac != 0) = false := by simpa using h
      have hb1 : (bc != 0) = true := by simpa using h2
      clear h h2
      go_enter Try.func54, Try.ntmps54
      go_wp2_with fail
      exact bodyPost_ret (v := .tuple #[.agg #[.int .i64 0, .string ⟨#[]⟩, .int .i64 0], .int .i64 22]) (by simp [results, Try.results54, go_sem]) rfl ⟨by rw [HS.out]; try rfl, below_a (below_a (below_a (Below.refl w.heap.size w) _) _) _⟩
  · have HS : Hid (numS andF (ac, sa, an) (bc, sb, bn) = ve 22) := by unfold Hid numS; rw [if_pos (Or.inl h)]
    have hb0 : (ac != 0) = true := by simpa using h
    clear h
    go_enter Try.func54, Try.ntmps54
    go_wp2_with fail
    exact bodyPost_ret (v := .tuple #[.agg #[.int .i64 0, .string ⟨#[]⟩, .int .i64 0], .int .i64 22]) (by simp [results, Try.results54, go_sem]) rfl ⟨by rw [HS.out]; try rfl, below_a (below_a (below_a (Below.refl w.heap.size w) _) _) _⟩
theorem and_v (a b : VV) (w : World) : Calls Try.prog 43 #[vv a, vv b] w fun e w' => e = .returned (vr (numS andF a b)) ∧ Below w.heap.size w w' := by
  obtain ⟨ac, sa, an⟩ := a
  obtain ⟨bc, sb, bn⟩ := b
  have hz0 := RB.new ((w.alloc (.cells #[.int .i64 ac, .string sa, .int .i64 an] 54)).alloc (.cells #[.int .i64 bc, .string sb, .int .i64 bn] 54)) 54 #[.int .i64 0, .string ⟨#[]⟩, .int .i64 0]
  rw [size1, size1] at hz0
  have HB0 := hidI (((Below.alloc (Below.refl w.heap.size w) (Nat.le_refl _) (.cells #[.int .i64 ac, .string sa, .int .i64 an] 54)).alloc (by rw [size1]; omega) (.cells #[.int .i64 bc, .string sb, .int .i64 bn] 54)).alloc (by rw [size1, size1]; omega) (.cells #[.int .i64 0, .string ⟨#[]⟩, .int .i64 0] 54))
  go_enter Try.func43, Try.ntmps43
  go_wp2_with (first
    | (go_at_call 54; refine (num57_v (ac, sa, an) (bc, sb, bn) _).mono ?_; rintro e w1 ⟨rfl, hb⟩; have hz1 := hz0.below hb hz0.lt; have HB1 := hidI (HB0.out.trans (hb.mono HB0.out.size)); clear hb HB0 hz0)
    | ((with_reducible refine g_store 54 ?_ rfl); refine st_storeR 54 (by rfl) rfl rfl rfl hz1 rfl info54 (by simp [Value.oneCell']) ?_; intro w2 hz2 hu; have HB2 := hidI (HB1.out.trans (hu.below (by omega))); clear hz1 HB1 hu))
  exact bodyPost_ret (hz2.res2 (v := .int .i64 (numS andF (ac, sa, an) (bc, sb, bn)).2) rfl _ rfl rfl Try.underlying54 rfl info54) rfl ⟨rfl, HB2.out⟩
theorem clos58_v (x y : Int) (w : World) : Calls Try.prog 58 #[.int .i64 x, .int .i64 y] w fun e w' => e = .returned (.int .i64 (orF x y)) ∧ w' = w := by
  go_enter Try.func58, Try.ntmps58
  go_wp2
  go_ret
  exact ⟨rfl, rfl⟩
theorem num58_v (a b : VV) (w : World) : Calls Try.prog 54 #[vv a, vv b, .func (.func 58) #[] #[]] w fun e w' => e = .returned (vr (numS orF a b)) ∧ Below w.heap.size w w' := by
  obtain ⟨ac, sa, an⟩ := a
  obtain ⟨bc, sb, bn⟩ := b
  by_cases h : ac = 0
  · by_cases h2 : bc = 0
    · have HS : Hid (numS orF (ac, sa, an) (bc, sb, bn) = ((0, ⟨#[]⟩, wrp (orF an bn)), 0)) := by unfold Hid numS; rw [if_neg (by simp [h, h2])]
      have hb0 : (ac != 0) = false := by simpa using h
      have hb1 : (bc != 0) = false := by simpa using h2
      clear h h2
      go_enter Try.func54, Try.ntmps54
      go_wp2_with fail
      refine (clos58_v _ _ _).mono ?_
      rintro e w1 ⟨rfl, hw1⟩
      subst hw1
      go_wp2_with (go_at_call 48; refine (wrap_v _ _).mono ?_; rintro e w1 ⟨rfl, rfl⟩)
      exact bodyPost_ret (v := .tuple #[.agg #[.int .i64 0, .string ⟨#[]⟩, .int .i64 (wrp (orF an bn))], .int .i64 0]) (by simp [results, Try.results54, go_sem]) rfl ⟨by rw [HS.out]; try rfl, below_a (below_a (below_a (Below.refl w.heap.size w) _) _) _⟩
    · have HS : Hid (numS orF (ac, sa, an) (bc, sb, bn) = ve 22) := by unfold Hid numS; rw [if_pos (Or.inr h2)]
      have hb0 : (ac != 0) = false := by simpa using h
      have hb1 : (bc != 0) = true := by simpa using h2
      clear h h2
      go_enter Try.func54, Try.ntmps54
      go_wp2_with fail
      exact bodyPost_ret (v := .tuple #[.agg #[.int .i64 0, .string ⟨#[]⟩, .int .i64 0], .int .i64 22]) (by simp [results, Try.results54, go_sem]) rfl ⟨by rw [HS.out]; try rfl, below_a (below_a (below_a (Below.refl w.heap.size w) _) _) _⟩
  · have HS : Hid (numS orF (ac, sa, an) (bc, sb, bn) = ve 22) := by unfold Hid numS; rw [if_pos (Or.inl h)]
    have hb0 : (ac != 0) = true := by simpa using h
    clear h
    go_enter Try.func54, Try.ntmps54
    go_wp2_with fail
    exact bodyPost_ret (v := .tuple #[.agg #[.int .i64 0, .string ⟨#[]⟩, .int .i64 0], .int .i64 22]) (by simp [results, Try.results54, go_sem]) rfl ⟨by rw [HS.out]; try rfl, below_a (below_a (below_a (Below.refl w.heap.size w) _) _) _⟩
theorem or_v (a b : VV) (w : World) : Calls Try.prog 44 #[vv a, vv b] w fun e w' => e = .returned (vr (numS orF a b)) ∧ Below w.heap.size w w' := by
  obtain ⟨ac, sa, an⟩ := a
  obtain ⟨bc, sb, bn⟩ := b
  have hz0 := RB.new ((w.alloc (.cells #[.int .i64 ac, .string sa, .int .i64 an] 54)).alloc (.cells #[.int .i64 bc, .string sb, .int .i64 bn] 54)) 54 #[.int .i64 0, .string ⟨#[]⟩, .int .i64 0]
  rw [size1, size1] at hz0
  have HB0 := hidI (((Below.alloc (Below.refl w.heap.size w) (Nat.le_refl _) (.cells #[.int .i64 ac, .string sa, .int .i64 an] 54)).alloc (by rw [size1]; omega) (.cells #[.int .i64 bc, .string sb, .int .i64 bn] 54)).alloc (by rw [size1, size1]; omega) (.cells #[.int .i64 0, .string ⟨#[]⟩, .int .i64 0] 54))
  go_enter Try.func44, Try.ntmps44
  go_wp2_with (first
    | (go_at_call 54; refine (num58_v (ac, sa, an) (bc, sb, bn) _).mono ?_; rintro e w1 ⟨rfl, hb⟩; have hz1 := hz0.below hb hz0.lt; have HB1 := hidI (HB0.out.trans (hb.mono HB0.out.size)); clear hb HB0 hz0)
    | ((with_reducible refine g_store 54 ?_ rfl); refine st_storeR 54 (by rfl) rfl rfl rfl hz1 rfl info54 (by simp [Value.oneCell']) ?_; intro w2 hz2 hu; have HB2 := hidI (HB1.out.trans (hu.below (by omega))); clear hz1 HB1 hu))
  exact bodyPost_ret (hz2.res2 (v := .int .i64 (numS orF (ac, sa, an) (bc, sb, bn)).2) rfl _ rfl rfl Try.underlying54 rfl info54) rfl ⟨rfl, HB2.out⟩
end Go.Proofs.Ytpinoobgnnlccaa.A

/- value.operation and Binary: the value of an operation. Condition: symbols of at most 1000 bytes; the contract of valid is handed over. -/
namespace Go.Proofs.Ytpinoobgnnlccaa.A
open Go Go.RowKit
set_option linter.unusedSimpArgs false
set_option linter.unusedVariables false
/-- the method value that operation gives -/
def opF (o : ByteArray) (a : VV) : Value := if sIs o [43] = true then .func (.func 39) #[vv a] #[] else if sIs o [45] = true then .func (.func 40) #[vv a] #[] else if sIs o [42] = true then .func (.func 41) #[vv a] #[] else if sIs o [47] = true then .func (.func 42) #[vv a] #[] else if sIs o [38] = true then .func (.func 43) #[vv a] #[] else if sIs o [124] = true then .func (.func 44) #[vv a] #[] else .nilFunc
theorem op_v (o : ByteArray) (a : VV) (w : World) : Calls Try.prog 31 #[vv a, .string o] w fun e w' => e = .returned (opF o a) ∧ Below w.heap.size w w' := by
  obtain ⟨ac, sa, an⟩ := a
  have hmf : ∀ (fn : Fn) (first cap : Array Value) (w : World), (Instr.makeFunc fn first cap).run Try.prog w = .ok (.func fn first cap) w := fun _ _ _ _ => rfl
  cases h0 : sIs o [43]
  case true =>
    have HS : Hid (opF o (ac, sa, an) = .func (.func 39) #[.agg #[.int .i64 ac, .string sa, .int .i64 an]] #[]) := by unfold Hid opF; rw [if_pos h0]
    have g0 : (o.toList == ([43] : List UInt8)) = true := h0
    clear h0
    go_enter Try.func31, Try.ntmps31
    go_wp2
    exact bodyPost_ret (v := .func (.func 39) #[.agg #[.int .i64 ac, .string sa, .int .i64 an]] #[]) (by simp [results, Try.results31, go_sem]) rfl ⟨by rw [HS.out], below_a (Below.refl w.heap.size w) _⟩
  case false =>
    cases h1 : sIs o [45]
    case true =>
      have HS : Hid (opF o (ac, sa, an) = .func (.func 40) #[.agg #[.int .i64 ac, .string sa, .int .i64 an]] #[]) := by unfold Hid opF; rw [if_neg (by rw [h0]; decide), if_pos h1]
      have g0 : (o.toList == ([43] : List UInt8)) = false := h0
      have g1 : (o.toList == ([45] : List UInt8)) = true := h1
      clear h0 h1
      go_enter Try.func31, Try.ntmps31
      go_wp2
      exact bodyPost_ret (v := .func (.func 40) #[.agg #[.int .i64 ac, .string sa, .int .i64 an]] #[]) (by simp [results, Try.results31, go_sem]) rfl ⟨by rw [HS.out], below_a (Below.refl w.heap.size w) _⟩
    case false =>
      cases h2 : sIs o [42]
      case true =>
        have HS : Hid (opF o (ac, sa, an) = .func (.func 41) #[.agg #[.int .i64 ac, .string sa, .int .i64 an]] #[]) := by unfold Hid opF; rw [if_neg (by rw [h0]; decide), if_neg (by rw [h1]; decide), if_pos h2]
        have g0 : (o.toList == ([43] : List UInt8)) = false := h0
        have g1 : (o.toList == ([45] : List UInt8)) = false := h1
        have g2 : (o.toList == ([42] : List UInt8)) = true := h2
        clear h0 h1 h2
        go_enter Try.func31, Try.ntmps31
        go_wp2
        exact bodyPost_ret (v := .func (.func 41) #[.agg #[.int .i64 ac, .string sa, .int .i64 an]] #[]) (by simp [results, Try.results31, go_sem]) rfl ⟨by rw [HS.out], below_a (Below.refl w.heap.size w) _⟩
      case false =>
        cases h3 : sIs o [47]
        case true =>
          have HS : Hid (opF o (ac, sa, an) = .func (.func 42) #[.agg #[.int .i64 ac, .string sa, .int .i64 an]] #[]) := by unfold Hid opF; rw [if_neg (by rw [h0]; decide), if_neg (by rw [h1]; decide), if_neg (by rw [h2]; decide), if_pos h3]
          have g0 : (o.toList == ([43] : List UInt8)) = false := h0
          have g1 : (o.toList == ([45] : List UInt8)) = false := h1
          have g2 : (o.toList == ([42] : List UInt8)) = false := h2
          have g3 : (o.toList == ([47] : List UInt8)) = true := h3
          clear h0 h1 h2 h3
          go_enter Try.func31, Try.ntmps31
          go_wp2
          exact bodyPost_ret (v := .func (.func 42) #[.agg #[.int .i64 ac, .string sa, .int .i64 an]] #[]) (by simp [results, Try.results31, go_sem]) rfl ⟨by rw [HS.out], below_a (Below.refl w.heap.size w) _⟩
        case false =>
          cases h4 : sIs o [38]
          case true =>
            have HS : Hid (opF o (ac, sa, an) = .func (.func 43) #[.agg #[.int .i64 ac, .string sa, .int .i64 an]] #[]) := by unfold Hid opF; rw [if_neg (by rw [h0]; decide), if_neg (by rw [h1]; decide), if_neg (by rw [h2]; decide), if_neg (by rw [h3]; decide), if_pos h4]
            have g0 : (o.toList == ([43] : List UInt8)) = false := h0
            have g1 : (o.toList == ([45] : List UInt8)) = false := h1
            have g2 : (o.toList == ([42] : List UInt8)) = false := h2
            have g3 : (o.toList == ([47] : List UInt8)) = false := h3
            have g4 : (o.toList == ([38] : List UInt8)) = true := h4
            clear h0 h1 h2 h3 h4
            go_enter Try.func31, Try.ntmps31
            go_wp2
            exact bodyPost_ret (v := .func (.func 43) #[.agg #[.int .i64 ac, .string sa, .int .i64 an]] #[]) (by simp [results, Try.results31, go_sem]) rfl ⟨by rw [HS.out], below_a (Below.refl w.heap.size w) _⟩
          case false =>
            cases h5 : sIs o [124]
            case true =>
              have HS : Hid (opF o (ac, sa, an) = .func (.func 44) #[.agg #[.int .i64 ac, .string sa, .int .i64 an]] #[]) := by unfold Hid opF; rw [if_neg (by rw [h0]; decide), if_neg (by rw [h1]; decide), if_neg (by rw [h2]; decide), if_neg (by rw [h3]; decide), if_neg (by rw [h4]; decide), if_pos h5]
              have g0 : (o.toList == ([43] : List UInt8)) = false := h0
              have g1 : (o.toList == ([45] : List UInt8)) = false := h1
              have g2 : (o.toList == ([42] : List UInt8)) = false := h2
              have g3 : (o.toList == ([47] : List UInt8)) = false := h3
              have g4 : (o.toList == ([38] : List UInt8)) = false := h4
              have g5 : (o.toList == ([124] : List UInt8)) = true := h5
              clear h0 h1 h2 h3 h4 h5
              go_enter Try.func31, Try.ntmps31
              go_wp2
              exact bodyPost_ret (v := .func (.func 44) #[.agg #[.int .i64 ac, .string sa, .int .i64 an]] #[]) (by simp [results, Try.results31, go_sem]) rfl ⟨by rw [HS.out], below_a (Below.refl w.heap.size w) _⟩
            case false =>
              have HS : Hid (opF o (ac, sa, an) = .nilFunc) := by unfold Hid opF; rw [if_neg (by rw [h0]; decide), if_neg (by rw [h1]; decide), if_neg (by rw [h2]; decide), if_neg (by rw [h3]; decide), if_neg (by rw [h4]; decide), if_neg (by rw [h5]; decide)]
              have g0 : (o.toList == ([43] : List UInt8)) = false := h0
              have g1 : (o.toList == ([45] : List UInt8)) = false := h1
              have g2 : (o.toList == ([42] : List UInt8)) = false := h2
              have g3 : (o.toList == ([47] : List UInt8)) = false := h3
              have g4 : (o.toList == ([38] : List UInt8)) = false := h4
              have g5 : (o.toList == ([124] : List UInt8)) = false := h5
              clear h0 h1 h2 h3 h4 h5
              go_enter Try.func31, Try.ntmps31
              go_wp2
              exact bodyPost_ret (v := .nilFunc) (by simp [results, Try.results31, go_sem]) rfl ⟨by rw [HS.out], below_a (Below.refl w.heap.size w) _⟩
end Go.Proofs.Ytpinoobgnnlccaa.A

/- Binary: the value of an operation. Condition: symbols of at most 1000 bytes; the contract of valid is handed over. -/
namespace Go.Proofs.Ytpinoobgnnlccaa.A
open Go Go.RowKit
set_option linter.unusedSimpArgs false
set_option linter.unusedVariables false
def ValidC : Prop := ∀ (c : Int) (s : ByteArray) (n : Int) (w : World), s.size ≤ 1000 → Calls Try.prog 25 #[.agg #[.int .i64 c, .string s, .int .i64 n]] w fun e w' => e = .returned (.bool (validS c s n)) ∧ Below w.heap.size w w'
theorem eq_fn (k : Fn) (f c : Array Value) (w : World) : (binOp BinOp.eql 61 (.func k f c) .nilFunc).run Try.prog w = .ok (.bool false) w := by kernel_rfl
theorem eq_nilfn (w : World) : (binOp BinOp.eql 61 .nilFunc .nilFunc).run Try.prog w = .ok (.bool true) w := by kernel_rfl
theorem bin39_v (hv : ValidC) (o : ByteArray) (a b : VV) (w : World) (hf : opF o a = .func (.func 39) #[vv a] #[]) (hsa : a.2.1.size ≤ 1000) (hsb : b.2.1.size ≤ 1000) (ha : validS a.1 a.2.1 a.2.2 = true) (hb : validS b.1 b.2.1 b.2.2 = true) : Calls Try.prog 23 #[.string o, vv a, vv b] w fun e w' => e = .returned (vr (addS a b)) ∧ Below w.heap.size w w' := by
  obtain ⟨ac, sa, an⟩ := a
  obtain ⟨bc, sb, bn⟩ := b
  have HF := hidI hf
  have hvA := hidI ha
  have hvB := hidI hb
  have hsA : sa.size ≤ 1000 := hsa
  have hsB : sb.size ≤ 1000 := hsb
  clear hf ha hb hsa hsb
  have hA0 := ((RB.new w 24 #[.int .i64 ac, .string sa, .int .i64 an]).alloc (.cells #[.int .i64 bc, .string sb, .int .i64 bn] 24)).alloc (.cells #[.int .i64 0, .string ⟨#[]⟩, .int .i64 0] 24)
  have hB0 := (RB.new (w.alloc (.cells #[.int .i64 ac, .string sa, .int .i64 an] 24)) 24 #[.int .i64 bc, .string sb, .int .i64 bn]).alloc (.cells #[.int .i64 0, .string ⟨#[]⟩, .int .i64 0] 24)
  have hR0 := RB.new ((w.alloc (.cells #[.int .i64 ac, .string sa, .int .i64 an] 24)).alloc (.cells #[.int .i64 bc, .string sb, .int .i64 bn] 24)) 24 #[.int .i64 0, .string ⟨#[]⟩, .int .i64 0]
  rw [size1, size1] at hR0
  rw [size1] at hB0
  have HB0 := hidI (below_a (below_a (below_a (Below.refl w.heap.size w) (.cells #[.int .i64 ac, .string sa, .int .i64 an] 24)) (.cells #[.int .i64 bc, .string sb, .int .i64 bn] 24)) (.cells #[.int .i64 0, .string ⟨#[]⟩, .int .i64 0] 24))
  have hq1 := eq_fn
  have hq2 := eq_nilfn
  go_enter Try.func23, Try.ntmps23
  go_wp2_with (first
    | (go_at_call 31; have _t := HB0; refine (op_v o (ac, sa, an) _).mono ?_; rintro e w1 ⟨he, hb⟩; rw [HF.out] at he; subst he; have hA1 := hA0.below hb hA0.lt; have hB1 := hB0.below hb hB0.lt; have hR1 := hR0.below hb hR0.lt; have HB1 := hidI (HB0.out.trans (hb.mono HB0.out.size)); clear hb HB0 hA0 hB0 hR0)
    | ((with_reducible refine g_load 24 ?_ rfl); have _t := HB1; refine st_loadR 24 (by rfl) rfl rfl hA1 Try.underlying24 rfl info24 ?_)
    | (go_at_call 25; have _t := HB1; refine (hv _ _ _ _ hsA).mono ?_; rintro e w2 ⟨he, hb⟩; rw [hvA.out] at he; subst he; have hA2 := hA1.below hb hA1.lt; have hB2 := hB1.below hb hB1.lt; have hR2 := hR1.below hb hR1.lt; have HB2 := hidI (HB1.out.trans (hb.mono HB1.out.size)); clear hb HB1 hA1 hB1 hR1)
    | ((with_reducible refine g_load 24 ?_ rfl); have _t := HB2; refine st_loadR 24 (by rfl) rfl rfl hB2 Try.underlying24 rfl info24 ?_)
    | (go_at_call 25; have _t := HB2; refine (hv _ _ _ _ hsB).mono ?_; rintro e w3 ⟨he, hb⟩; rw [hvB.out] at he; subst he; have hA3 := hA2.below hb hA2.lt; have hB3 := hB2.below hb hB2.lt; have hR3 := hR2.below hb hR2.lt; have HB3 := hidI (HB2.out.trans (hb.mono HB2.out.size)); clear hb HB2 hA2 hB2 hR2)
    | ((with_reducible refine g_load 24 ?_ rfl); have _t := HB3; refine st_loadR 24 (by rfl) rfl rfl hB3 Try.underlying24 rfl info24 ?_))
  refine (add_v (ac, sa, an) (bc, sb, bn) _).mono ?_
  rintro e w4 ⟨rfl, hb⟩
  have hA4 := hA3.below hb hA3.lt; have hB4 := hB3.below hb hB3.lt; have hR4 := hR3.below hb hR3.lt; have HB4 := hidI (HB3.out.trans (hb.mono HB3.out.size)); clear hb HB3 hA3 hB3 hR3
  go_wp2_with ((with_reducible refine g_store 24 ?_ rfl); have _t := HB4; refine st_storeR 24 (by rfl) rfl rfl rfl (hR4.alloc _) rfl info24 (by simp [Value.oneCell']) ?_; intro w5 hR5 hu; have HB5 := hidI ((below_a HB4.out _).trans (hu.below (by omega))); clear hR4 HB4 hu hA4 hB4)
  exact bodyPost_ret (hR5.res2 (v := .int .i64 (addS (ac, sa, an) (bc, sb, bn)).2) rfl _ rfl rfl Try.underlying24 rfl info24) rfl ⟨rfl, HB5.out⟩
theorem bin40_v (hv : ValidC) (o : ByteArray) (a b : VV) (w : World) (hf : opF o a = .func (.func 40) #[vv a] #[]) (hsa : a.2.1.size ≤ 1000) (hsb : b.2.1.size ≤ 1000) (ha : validS a.1 a.2.1 a.2.2 = true) (hb : validS b.1 b.2.1 b.2.2 = true) : Calls Try.prog 23 #[.string o, vv a, vv b] w fun e w' => e = .returned (vr (subS a b)) ∧ Below w.heap.size w w' := by
  obtain ⟨ac, sa, an⟩ := a
  obtain ⟨bc, sb, bn⟩ := b
  have HF := hidI hf
  have hvA := hidI ha
  have hvB := hidI hb
  have hsA : sa.size ≤ 1000 := hsa
  have hsB : sb.size ≤ 1000 := hsb
  clear hf ha hb hsa hsb
  have hA0 := ((RB.new w 24 #[.int .i64 ac, .string sa, .int .i64 an]).alloc (.cells #[.int .i64 bc, .string sb, .int .i64 bn] 24)).alloc (.cells #[.int .i64 0, .string ⟨#[]⟩, .int .i64 0] 24)
  have hB0 := (RB.new (w.alloc (.cells #[.int .i64 ac, .string sa, .int .i64 an] 24)) 24 #[.int .i64 bc, .string sb, .int .i64 bn]).alloc (.cells #[.int .i64 0, .string ⟨#[]⟩, .int .i64 0] 24)
  have hR0 := RB.new ((w.alloc (.cells #[.int .i64 ac, .string sa, .int .i64 an] 24)).alloc (.cells #[.int .i64 bc, .string sb, .int .i64 bn] 24)) 24 #[.int .i64 0, .string ⟨#[]⟩, .int .i64 0]
  rw [size1, size1] at hR0
  rw [size1] at hB0
  have HB0 := hidI (below_a (below_a (below_a (Below.refl w.heap.size w) (.cells #[.int .i64 ac, .string sa, .int .i64 an] 24)) (.cells #[.int .i64 bc, .string sb, .int .i64 bn] 24)) (.cells #[.int .i64 0, .string ⟨#[]⟩, .int .i64 0] 24))
  have hq1 := eq_fn
  have hq2 := eq_nilfn
  go_enter Try.func23, Try.ntmps23
  go_wp2_with (first
    | (go_at_call 31; have _t := HB0; refine (op_v o (ac, sa, an) _).mono ?_; rintro e w1 ⟨he, hb⟩; rw [HF.out] at he; subst he; have hA1 := hA0.below hb hA0.lt; have hB1 := hB0.below hb hB0.lt; have hR1 := hR0.below hb hR0.lt; have HB1 := hidI (HB0.out.trans (hb.mono HB0.out.size)); clear hb HB0 hA0 hB0 hR0)
    | ((with_reducible refine g_load 24 ?_ rfl); have _t := HB1; refine st_loadR 24 (by rfl) rfl rfl hA1 Try.underlying24 rfl info24 ?_)
    | (go_at_call 25; have _t := HB1; refine (hv _ _ _ _ hsA).mono ?_; rintro e w2 ⟨he, hb⟩; rw [hvA.out] at he; subst he; have hA2 := hA1.below hb hA1.lt; have hB2 := hB1.below hb hB1.lt; have hR2 := hR1.below hb hR1.lt; have HB2 := hidI (HB1.out.trans (hb.mono HB1.out.size)); clear hb HB1 hA1 hB1 hR1)
    | ((with_reducible refine g_load 24 ?_ rfl); have _t := HB2; refine st_loadR 24 (by rfl) rfl rfl hB2 Try.underlying24 rfl info24 ?_)
    | (go_at_call 25; have _t := HB2; refine (hv _ _ _ _ hsB).mono ?_; rintro e w3 ⟨he, hb⟩; rw [hvB.out] at he; subst he; have hA3 := hA2.below hb hA2.lt; have hB3 := hB2.below hb hB2.lt; have hR3 := hR2.below hb hR2.lt; have HB3 := hidI (HB2.out.trans (hb.mono HB2.out.size)); clear hb HB2 hA2 hB2 hR2)
    | ((with_reducible refine g_load 24 ?_ rfl); have _t := HB3; refine st_loadR 24 (by rfl) rfl rfl hB3 Try.underlying24 rfl info24 ?_))
  refine (sub_v (ac, sa, an) (bc, sb, bn) _).mono ?_
  rintro e w4 ⟨rfl, hb⟩
  have hA4 := hA3.below hb hA3.lt; have hB4 := hB3.below hb hB3.lt; have hR4 := hR3.below hb hR3.lt; have HB4 := hidI (HB3.out.trans (hb.mono HB3.out.size)); clear hb HB3 hA3 hB3 hR3
  go_wp2_with ((with_reducible refine g_store 24 ?_ rfl); have _t := HB4; refine st_storeR 24 (by rfl) rfl rfl rfl (hR4.alloc _) rfl info24 (by simp [Value.oneCell']) ?_; intro w5 hR5 hu; have HB5 := hidI ((below_a HB4.out _).trans (hu.below (by omega))); clear hR4 HB4 hu hA4 hB4)
  exact bodyPost_ret (hR5.res2 (v := .int .i64 (subS (ac, sa, an) (bc, sb, bn)).2) rfl _ rfl rfl Try.underlying24 rfl info24) rfl ⟨rfl, HB5.out⟩
theorem bin41_v (hv : ValidC) (o : ByteArray) (a b : VV) (w : World) (hf : opF o a = .func (.func 41) #[vv a] #[]) (hsa : a.2.1.size ≤ 1000) (hsb : b.2.1.size ≤ 1000) (ha : validS a.1 a.2.1 a.2.2 = true) (hb : validS b.1 b.2.1 b.2.2 = true) : Calls Try.prog 23 #[.string o, vv a, vv b] w fun e w' => e = .returned (vr (numS mulF a b)) ∧ Below w.heap.size w w' := by
  obtain ⟨ac, sa, an⟩ := a
  obtain ⟨bc, sb, bn⟩ := b
  have HF := hidI hf
  have hvA := hidI ha
  have hvB := hidI hb
  have hsA : sa.size ≤ 1000 := hsa
  have hsB : sb.size ≤ 1000 := hsb
  clear hf ha hb hsa hsb
  have hA0 := ((RB.new w 24 #[.int .i64 ac, .string sa, .int .i64 an]).alloc (.cells #[.int .i64 bc, .string sb, .int .i64 bn] 24)).alloc (.cells #[.int .i64 0, .string ⟨#[]⟩, .int .i64 0] 24)
  have hB0 := (RB.new (w.alloc (.cells #[.int .i64 ac, .string sa, .int .i64 an] 24)) 24 #[.int .i64 bc, .string sb, .int .i64 bn]).alloc (.cells #[.int .i64 0, .string ⟨#[]⟩, .int .i64 0] 24)
  have hR0 := RB.new ((w.alloc (.cells #[.int .i64 ac, .string sa, .int .i64 an] 24)).alloc (.cells #[.int .i64 bc, .string sb, .int .i64 bn] 24)) 24 #[.int .i64 0, .string ⟨#[]⟩, .int .i64 0]
  rw [size1, size1] at hR0
  rw [size1] at hB0
  have HB0 := hidI (below_a (below_a (below_a (Below.refl w.heap.size w) (.cells #[.int .i64 ac, .string sa, .int .i64 an] 24)) (.cells #[.int .i64 bc, .string sb, .int .i64 bn] 24)) (.cells #[.int .i64 0, .string ⟨#[]⟩, .int .i64 0] 24))
  have hq1 := eq_fn
  have hq2 := eq_nilfn
  go_enter Try.func23, Try.ntmps23
  go_wp2_with (first
    | (go_at_call 31; have _t := HB0; refine (op_v o (ac, sa, an) _).mono ?_; rintro e w1 ⟨he, hb⟩; rw [HF.out] at he; subst he; have hA1 := hA0.below hb hA0.lt; have hB1 := hB0.below hb hB0.lt; have hR1 := hR0.below hb hR0.lt; have HB1 := hidI (HB0.out.trans (hb.mono HB0.out.size)); clear hb HB0 hA0 hB0 hR0)
    | ((with_reducible refine g_load 24 ?_ rfl); have _t := HB1; refine st_loadR 24 (by rfl) rfl rfl hA1 Try.underlying24 rfl info24 ?_)
    | (go_at_call 25; have _t := HB1; refine (hv _ _ _ _ hsA).mono ?_; rintro e w2 ⟨he, hb⟩; rw [hvA.out] at he; subst he; have hA2 := hA1.below hb hA1.lt; have hB2 := hB1.below hb hB1.lt; have hR2 := hR1.below hb hR1.lt; have HB2 := hidI (HB1.out.trans (hb.mono HB1.out.size)); clear hb HB1 hA1 hB1 hR1)
    | ((with_reducible refine g_load 24 ?_ rfl); have _t := HB2; refine st_loadR 24 (by rfl) rfl rfl hB2 Try.underlying24 rfl info24 ?_)
    | (go_at_call 25; have _t := HB2; refine (hv _ _ _ _ hsB).mono ?_; rintro e w3 ⟨he, hb⟩; rw [hvB.out] at he; subst he; have hA3 := hA2.below hb hA2.lt; have hB3 := hB2.below hb hB2.lt; have hR3 := hR2.below hb hR2.lt; have HB3 := hidI (HB2.out.trans (hb.mono HB2.out.size)); clear hb HB2 hA2 hB2 hR2)
    | ((with_reducible refine g_load 24 ?_ rfl); have _t := HB3; refine st_loadR 24 (by rfl) rfl rfl hB3 Try.underlying24 rfl info24 ?_))
  refine (mul_v (ac, sa, an) (bc, sb, bn) _).mono ?_
  rintro e w4 ⟨rfl, hb⟩
  have hA4 := hA3.below hb hA3.lt; have hB4 := hB3.below hb hB3.lt; have hR4 := hR3.below hb hR3.lt; have HB4 := hidI (HB3.out.trans (hb.mono HB3.out.size)); clear hb HB3 hA3 hB3 hR3
  go_wp2_with ((with_reducible refine g_store 24 ?_ rfl); have _t := HB4; refine st_storeR 24 (by rfl) rfl rfl rfl (hR4.alloc _) rfl info24 (by simp [Value.oneCell']) ?_; intro w5 hR5 hu; have HB5 := hidI ((below_a HB4.out _).trans (hu.below (by omega))); clear hR4 HB4 hu hA4 hB4)
  exact bodyPost_ret (hR5.res2 (v := .int .i64 (numS mulF (ac, sa, an) (bc, sb, bn)).2) rfl _ rfl rfl Try.underlying24 rfl info24) rfl ⟨rfl, HB5.out⟩
theorem bin42_v (hv : ValidC) (o : ByteArray) (a b : VV) (w : World) (hf : opF o a = .func (.func 42) #[vv a] #[]) (hsa : a.2.1.size ≤ 1000) (hsb : b.2.1.size ≤ 1000) (ha : validS a.1 a.2.1 a.2.2 = true) (hb : validS b.1 b.2.1 b.2.2 = true) : Calls Try.prog 23 #[.string o, vv a, vv b] w fun e w' => e = .returned (vr (divS a b)) ∧ Below w.heap.size w w' := by
  obtain ⟨ac, sa, an⟩ := a
  obtain ⟨bc, sb, bn⟩ := b
  have HF := hidI hf
  have hvA := hidI ha
  have hvB := hidI hb
  have hsA : sa.size ≤ 1000 := hsa
  have hsB : sb.size ≤ 1000 := hsb
  clear hf ha hb hsa hsb
  have hA0 := ((RB.new w 24 #[.int .i64 ac, .string sa, .int .i64 an]).alloc (.cells #[.int .i64 bc, .string sb, .int .i64 bn] 24)).alloc (.cells #[.int .i64 0, .string ⟨#[]⟩, .int .i64 0] 24)
  have hB0 := (RB.new (w.alloc (.cells #[.int .i64 ac, .string sa, .int .i64 an] 24)) 24 #[.int .i64 bc, .string sb, .int .i64 bn]).alloc (.cells #[.int .i64 0, .string ⟨#[]⟩, .int .i64 0] 24)
  have hR0 := RB.new ((w.alloc (.cells #[.int .i64 ac, .string sa, .int .i64 an] 24)).alloc (.cells #[.int .i64 bc, .string sb, .int .i64 bn] 24)) 24 #[.int .i64 0, .string ⟨#[]⟩, .int .i64 0]
  rw [size1, size1] at hR0
  rw [size1] at hB0
  have HB0 := hidI (below_a (below_a (below_a (Below.refl w.heap.size w) (.cells #[.int .i64 ac, .string sa, .int .i64 an] 24)) (.cells #[.int .i64 bc, .string sb, .int .i64 bn] 24)) (.cells #[.int .i64 0, .string ⟨#[]⟩, .int .i64 0] 24))
  have hq1 := eq_fn
  have hq2 := eq_nilfn
  go_enter Try.func23, Try.ntmps23
  go_wp2_with (first
    | (go_at_call 31; have _t := HB0; refine (op_v o (ac, sa, an) _).mono ?_; rintro e w1 ⟨he, hb⟩; rw [HF.out] at he; subst he; have hA1 := hA0.below hb hA0.lt; have hB1 := hB0.below hb hB0.lt; have hR1 := hR0.below hb hR0.lt; have HB1 := hidI (HB0.out.trans (hb.mono HB0.out.size)); clear hb HB0 hA0 hB0 hR0)
    | ((with_reducible refine g_load 24 ?_ rfl); have _t := HB1; refine st_loadR 24 (by rfl) rfl rfl hA1 Try.underlying24 rfl info24 ?_)
    | (go_at_call 25; have _t := HB1; refine (hv _ _ _ _ hsA).mono ?_; rintro e w2 ⟨he, hb⟩; rw [hvA.out] at he; subst he; have hA2 := hA1.below hb hA1.lt; have hB2 := hB1.below hb hB1.lt; have hR2 := hR1.below hb hR1.lt; have HB2 := hidI (HB1.out.trans (hb.mono HB1.out.size)); clear hb HB1 hA1 hB1 hR1)
    | ((with_reducible refine g_load 24 ?_ rfl); have _t := HB2; refine st_loadR 24 (by rfl) rfl rfl hB2 Try.underlying24 rfl info24 ?_)
    | (go_at_call 25; have _t := HB2; refine (hv _ _ _ _ hsB).mono ?_; rintro e w3 ⟨he, hb⟩; rw [hvB.out] at he; subst he; have hA3 := hA2.below hb hA2.lt; have hB3 := hB2.below hb hB2.lt; have hR3 := hR2.below hb hR2.lt; have HB3 := hidI (HB2.out.trans (hb.mono HB2.out.size)); clear hb HB2 hA2 hB2 hR2)
    | ((with_reducible refine g_load 24 ?_ rfl); have _t := HB3; refine st_loadR 24 (by rfl) rfl rfl hB3 Try.underlying24 rfl info24 ?_))
  refine (div_v (ac, sa, an) (bc, sb, bn) _).mono ?_
  rintro e w4 ⟨rfl, hb⟩
  have hA4 := hA3.below hb hA3.lt; have hB4 := hB3.below hb hB3.lt; have hR4 := hR3.below hb hR3.lt; have HB4 := hidI (HB3.out.trans (hb.mono HB3.out.size)); clear hb HB3 hA3 hB3 hR3
  go_wp2_with ((with_reducible refine g_store 24 ?_ rfl); have _t := HB4; refine st_storeR 24 (by rfl) rfl rfl rfl (hR4.alloc _) rfl info24 (by simp [Value.oneCell']) ?_; intro w5 hR5 hu; have HB5 := hidI ((below_a HB4.out _).trans (hu.below (by omega))); clear hR4 HB4 hu hA4 hB4)
  exact bodyPost_ret (hR5.res2 (v := .int .i64 (divS (ac, sa, an) (bc, sb, bn)).2) rfl _ rfl rfl Try.underlying24 rfl info24) rfl ⟨rfl, HB5.out⟩
theorem bin43_v (hv : ValidC) (o : ByteArray) (a b : VV) (w : World) (hf : opF o a = .func (.func 43) #[vv a] #[]) (hsa : a.2.1.size ≤ 1000) (hsb : b.2.1.size ≤ 1000) (ha : validS a.1 a.2.1 a.2.2 = true) (hb : validS b.1 b.2.1 b.2.2 = true) : Calls Try.prog 23 #[.string o, vv a, vv b] w fun e w' => e = .returned (vr (numS andF a b)) ∧ Below w.heap.size w w' := by
  obtain ⟨ac, sa, an⟩ := a
  obtain ⟨bc, sb, bn⟩ := b
  have HF := hidI hf
  have hvA := hidI ha
  have hvB := hidI hb
  have hsA : sa.size ≤ 1000 := hsa
  have hsB : sb.size ≤ 1000 := hsb
  clear hf ha hb hsa hsb
  have hA0 := ((RB.new w 24 #[.int .i64 ac, .string sa, .int .i64 an]).alloc (.cells #[.int .i64 bc, .string sb, .int .i64 bn] 24)).alloc (.cells #[.int .i64 0, .string ⟨#[]⟩, .int .i64 0] 24)
  have hB0 := (RB.new (w.alloc (.cells #[.int .i64 ac, .string sa, .int .i64 an] 24)) 24 #[.int .i64 bc, .string sb, .int .i64 bn]).alloc (.cells #[.int .i64 0, .string ⟨#[]⟩, .int .i64 0] 24)
  have hR0 := RB.new ((w.alloc (.cells #[.int .i64 ac, .string sa, .int .i64 an] 24)).alloc (.cells #[.int .i64 bc, .string sb, .int .i64 bn] 24)) 24 #[.int .i64 0, .string ⟨#[]⟩, .int .i64 0]
  rw [size1, size1] at hR0
  rw [size1] at hB0
  have HB0 := hidI (below_a (below_a (below_a (Below.refl w.heap.size w) (.cells #[.int .i64 ac, .string sa, .int .i64 an] 24)) (.cells #[.int .i64 bc, .string sb, .int .i64 bn] 24)) (.cells #[.int .i64 0, .string ⟨#[]⟩, .int .i64 0] 24))
  have hq1 := eq_fn
  have hq2 := eq_nilfn
  go_enter Try.func23, Try.ntmps23
  go_wp2_with (first
    | (go_at_call 31; have _t := HB0; refine (op_v o (ac, sa, an) _).mono ?_; rintro e w1 ⟨he, hb⟩; rw [HF.out] at he; subst he; have hA1 := hA0.below hb hA0.lt; have hB1 := hB0.below hb hB0.lt; have hR1 := hR0.below hb hR0.lt; have HB1 := hidI (HB0.out.trans (hb.mono HB0.out.size)); clear hb HB0 hA0 hB0 hR0)
    | ((with_reducible refine g_load 24 ?_ rfl); have _t := HB1; refine st_loadR 24 (by rfl) rfl rfl hA1 Try.underlying24 rfl info24 ?_)
    | (go_at_call 25; have _t := HB1; refine (hv _ _ _ _ hsA).mono ?_; rintro e w2 ⟨he, hb⟩; rw [hvA.out] at he; subst he; have hA2 := hA1.below hb hA1.lt; have hB2 := hB1.below hb hB1.lt; have hR2 := hR1.below hb hR1.lt; have HB2 := hidI (HB1.out.trans (hb.mono HB1.out.size)); clear hb HB1 hA1 hB1 hR1)
    | ((with_reducible refine g_load 24 ?_ rfl); have _t := HB2; refine st_loadR 24 (by rfl) rfl rfl hB2 Try.underlying24 rfl info24 ?_)
    | (go_at_call 25; have _t := HB2; refine (hv _ _ _ _ hsB).mono ?_; rintro e w3 ⟨he, hb⟩; rw [hvB.out] at he; subst he; have hA3 := hA2.below hb hA2.lt; have hB3 := hB2.below hb hB2.lt; have hR3 := hR2.below hb hR2.lt; have HB3 := hidI (HB2.out.trans (hb.mono HB2.out.size)); clear hb HB2 hA2 hB2 hR2)
    | ((with_reducible refine g_load 24 ?_ rfl); have _t := HB3; refine st_loadR 24 (by rfl) rfl rfl hB3 Try.underlying24 rfl info24 ?_))
  refine (and_v (ac, sa, an) (bc, sb, bn) _).mono ?_
  rintro e w4 ⟨rfl, hb⟩
  have hA4 := hA3.below hb hA3.lt; have hB4 := hB3.below hb hB3.lt; have hR4 := hR3.below hb hR3.lt; have HB4 := hidI (HB3.out.trans (hb.mono HB3.out.size)); clear hb HB3 hA3 hB3 hR3
  go_wp2_with ((with_reducible refine g_store 24 ?_ rfl); have _t := HB4; refine st_storeR 24 (by rfl) rfl rfl rfl (hR4.alloc _) rfl info24 (by simp [Value.oneCell']) ?_; intro w5 hR5 hu; have HB5 := hidI ((below_a HB4.out _).trans (hu.below (by omega))); clear hR4 HB4 hu hA4 hB4)
  exact bodyPost_ret (hR5.res2 (v := .int .i64 (numS andF (ac, sa, an) (bc, sb, bn)).2) rfl _ rfl rfl Try.underlying24 rfl info24) rfl ⟨rfl, HB5.out⟩
theorem bin44_v (hv : ValidC) (o : ByteArray) (a b : VV) (w : World) (hf : opF o a = .func (.func 44) #[vv a] #[]) (hsa : a.2.1.size ≤ 1000) (hsb : b.2.1.size ≤ 1000) (ha : validS a.1 a.2.1 a.2.2 = true) (hb : validS b.1 b.2.1 b.2.2 = true) : Calls Try.prog 23 #[.string o, vv a, vv b] w fun e w' => e = .returned (vr (numS orF a b)) ∧ Below w.heap.size w w' := by
  obtain ⟨ac, sa, an⟩ := a
  obtain ⟨bc, sb, bn⟩ := b
  have HF := hidI hf
  have hvA := hidI ha
  have hvB := hidI hb
  have hsA : sa.size ≤ 1000 := hsa
  have hsB : sb.size ≤ 1000 := hsb
  clear hf ha hb hsa hsb
  have hA0 := ((RB.new w 24 #[.int .i64 ac, .string sa, .int .i64 an]).alloc (.cells #[.int .i64 bc, .string sb, .int .i64 bn] 24)).alloc (.cells #[.int .i64 0, .string ⟨#[]⟩, .int .i64 0] 24)
  have hB0 := (RB.new (w.alloc (.cells #[.int .i64 ac, .string sa, .int .i64 an] 24)) 24 #[.int .i64 bc, .string sb, .int .i64 bn]).alloc (.cells #[.int .i64 0, .string ⟨#[]⟩, .int .i64 0] 24)
  have hR0 := RB.new ((w.alloc (.cells #[.int .i64 ac, .string sa, .int .i64 an] 24)).alloc (.cells #[.int .i64 bc, .string sb, .int .i64 bn] 24)) 24 #[.int .i64 0, .string ⟨#[]⟩, .int .i64 0]
  rw [size1, size1] at hR0
  rw [size1] at hB0
  have HB0 := hidI (below_a (below_a (below_a (Below.refl w.heap.size w) (.cells #[.int .i64 ac, .string sa, .int .i64 an] 24)) (.cells #[.int .i64 bc, .string sb, .int .i64 bn] 24)) (.cells #[.int .i64 0, .string ⟨#[]⟩, .int .i64 0] 24))
  have hq1 := eq_fn
  have hq2 := eq_nilfn
  go_enter Try.func23, Try.ntmps23
  go_wp2_with (first
    | (go_at_call 31; have _t := HB0; refine (op_v o (ac, sa, an) _).mono ?_; rintro e w1 ⟨he, hb⟩; rw [HF.out] at he; subst he; have hA1 := hA0.below hb hA0.lt; have hB1 := hB0.below hb hB0.lt; have hR1 := hR0.below hb hR0.lt; have HB1 := hidI (HB0.out.trans (hb.mono HB0.out.size)); clear hb HB0 hA0 hB0 hR0)
    | ((with_reducible refine g_load 24 ?_ rfl); have _t := HB1; refine st_loadR 24 (by rfl) rfl rfl hA1 Try.underlying24 rfl info24 ?_)
    | (go_at_call 25; have _t := HB1; refine (hv _ _ _ _ hsA).mono ?_; rintro e w2 ⟨he, hb⟩; rw [hvA.out] at he; subst he; have hA2 := hA1.below hb hA1.lt; have hB2 := hB1.below hb hB1.lt; have hR2 := hR1.below hb hR1.lt; have HB2 := hidI (HB1.out.trans (hb.mono HB1.out.size)); clear hb HB1 hA1 hB1 hR1)
    | ((with_reducible refine g_load 24 ?_ rfl); have _t := HB2; refine st_loadR 24 (by rfl) rfl rfl hB2 Try.underlying24 rfl info24 ?_)
    | (go_at_call 25; have _t := HB2; refine (hv _ _ _ _ hsB).mono ?_; rintro e w3 ⟨he, hb⟩; rw [hvB.out] at he; subst he; have hA3 := hA2.below hb hA2.lt; have hB3 := hB2.below hb hB2.lt; have hR3 := hR2.below hb hR2.lt; have HB3 := hidI (HB2.out.trans (hb.mono HB2.out.size)); clear hb HB2 hA2 hB2 hR2)
    | ((with_reducible refine g_load 24 ?_ rfl); have _t := HB3; refine st_loadR 24 (by rfl) rfl rfl hB3 Try.underlying24 rfl info24 ?_))
  refine (or_v (ac, sa, an) (bc, sb, bn) _).mono ?_
  rintro e w4 ⟨rfl, hb⟩
  have hA4 := hA3.below hb hA3.lt; have hB4 := hB3.below hb hB3.lt; have hR4 := hR3.below hb hR3.lt; have HB4 := hidI (HB3.out.trans (hb.mono HB3.out.size)); clear hb HB3 hA3 hB3 hR3
  go_wp2_with ((with_reducible refine g_store 24 ?_ rfl); have _t := HB4; refine st_storeR 24 (by rfl) rfl rfl rfl (hR4.alloc _) rfl info24 (by simp [Value.oneCell']) ?_; intro w5 hR5 hu; have HB5 := hidI ((below_a HB4.out _).trans (hu.below (by omega))); clear hR4 HB4 hu hA4 hB4)
  exact bodyPost_ret (hR5.res2 (v := .int .i64 (numS orF (ac, sa, an) (bc, sb, bn)).2) rfl _ rfl rfl Try.underlying24 rfl info24) rfl ⟨rfl, HB5.out⟩
theorem bin_bad1 (hv : ValidC) (o : ByteArray) (a b : VV) (w : World) (k : Nat) (hf : opF o a = .func (.func k) #[vv a] #[]) (hsa : a.2.1.size ≤ 1000) (ha : validS a.1 a.2.1 a.2.2 = false) : Calls Try.prog 23 #[.string o, vv a, vv b] w fun e w' => e = .returned (vr (ve 1)) ∧ Below w.heap.size w w' := by
  obtain ⟨ac, sa, an⟩ := a
  obtain ⟨bc, sb, bn⟩ := b
  have HF := hidI hf
  have hvA := hidI ha
  have hsA : sa.size ≤ 1000 := hsa
  clear hf ha hsa
  have hA0 := ((RB.new w 24 #[.int .i64 ac, .string sa, .int .i64 an]).alloc (.cells #[.int .i64 bc, .string sb, .int .i64 bn] 24)).alloc (.cells #[.int .i64 0, .string ⟨#[]⟩, .int .i64 0] 24)
  have hB0 := (RB.new (w.alloc (.cells #[.int .i64 ac, .string sa, .int .i64 an] 24)) 24 #[.int .i64 bc, .string sb, .int .i64 bn]).alloc (.cells #[.int .i64 0, .string ⟨#[]⟩, .int .i64 0] 24)
  have hR0 := RB.new ((w.alloc (.cells #[.int .i64 ac, .string sa, .int .i64 an] 24)).alloc (.cells #[.int .i64 bc, .string sb, .int .i64 bn] 24)) 24 #[.int .i64 0, .string ⟨#[]⟩, .int .i64 0]
  rw [size1, size1] at hR0
  rw [size1] at hB0
  have HB0 := hidI (below_a (below_a (below_a (Below.refl w.heap.size w) (.cells #[.int .i64 ac, .string sa, .int .i64 an] 24)) (.cells #[.int .i64 bc, .string sb, .int .i64 bn] 24)) (.cells #[.int .i64 0, .string ⟨#[]⟩, .int .i64 0] 24))
  have hq1 := eq_fn
  have hq2 := eq_nilfn
  go_enter Try.func23, Try.ntmps23
  go_wp2_with (first
    | (go_at_call 31; have _t := HB0; refine (op_v o (ac, sa, an) _).mono ?_; rintro e w1 ⟨he, hb⟩; rw [HF.out] at he; subst he; have hA1 := hA0.below hb hA0.lt; have hB1 := hB0.below hb hB0.lt; have hR1 := hR0.below hb hR0.lt; have HB1 := hidI (HB0.out.trans (hb.mono HB0.out.size)); clear hb HB0 hA0 hB0 hR0)
    | ((with_reducible refine g_load 24 ?_ rfl); have _t := HB1; refine st_loadR 24 (by rfl) rfl rfl hA1 Try.underlying24 rfl info24 ?_)
    | (go_at_call 25; have _t := HB1; refine (hv _ _ _ _ hsA).mono ?_; rintro e w2 ⟨he, hb⟩; rw [hvA.out] at he; subst he; have hA2 := hA1.below hb hA1.lt; have hB2 := hB1.below hb hB1.lt; have hR2 := hR1.below hb hR1.lt; have HB2 := hidI (HB1.out.trans (hb.mono HB1.out.size)); clear hb HB1 hA1 hB1 hR1)
    | ((with_reducible refine g_store 24 ?_ rfl); have _t := HB2; refine st_storeR 24 (by rfl) rfl rfl rfl hR2 rfl info24 (by simp [Value.oneCell']) ?_; intro w3 hR3 hu; have HB3 := hidI (HB2.out.trans (hu.below (by omega))); clear hR2 HB2 hu hA2 hB2))
  exact bodyPost_ret (hR3.res2 (v := .int .i64 1) rfl _ rfl rfl Try.underlying24 rfl info24) rfl ⟨rfl, HB3.out⟩
theorem bin_bad2 (hv : ValidC) (o : ByteArray) (a b : VV) (w : World) (k : Nat) (hf : opF o a = .func (.func k) #[vv a] #[]) (hsa : a.2.1.size ≤ 1000) (hsb : b.2.1.size ≤ 1000) (ha : validS a.1 a.2.1 a.2.2 = true) (hb : validS b.1 b.2.1 b.2.2 = false) : Calls Try.prog 23 #[.string o, vv a, vv b] w fun e w' => e = .returned (vr (ve 1)) ∧ Below w.heap.size w w' := by
  obtain ⟨ac, sa, an⟩ := a
  obtain ⟨bc, sb, bn⟩ := b
  have HF := hidI hf
  have hvA := hidI ha
  have hvB := hidI hb
  have hsA : sa.size ≤ 1000 := hsa
  have hsB : sb.size ≤ 1000 := hsb
  clear hf ha hb hsa hsb
  have hA0 := ((RB.new w 24 #[.int .i64 ac, .string sa, .int .i64 an]).alloc (.cells #[.int .i64 bc, .string sb, .int .i64 bn] 24)).alloc (.cells #[.int .i64 0, .string ⟨#[]⟩, .int .i64 0] 24)
  have hB0 := (RB.new (w.alloc (.cells #[.int .i64 ac, .string sa, .int .i64 an] 24)) 24 #[.int .i64 bc, .string sb, .int .i64 bn]).alloc (.cells #[.int .i64 0, .string ⟨#[]⟩, .int .i64 0] 24)
  have hR0 := RB.new ((w.alloc (.cells #[.int .i64 ac, .string sa, .int .i64 an] 24)).alloc (.cells #[.int .i64 bc, .string sb, .int .i64 bn] 24)) 24 #[.int .i64 0, .string ⟨#[]⟩, .int .i64 0]
  rw [size1, size1] at hR0
  rw [size1] at hB0
  have HB0 := hidI (below_a (below_a (below_a (Below.refl w.heap.size w) (.cells #[.int .i64 ac, .string sa, .int .i64 an] 24)) (.cells #[.int .i64 bc, .string sb, .int .i64 bn] 24)) (.cells #[.int .i64 0, .string ⟨#[]⟩, .int .i64 0] 24))
  have hq1 := eq_fn
  have hq2 := eq_nilfn
  go_enter Try.func23, Try.ntmps23
  go_wp2_with (first
    | (go_at_call 31; have _t := HB0; refine (op_v o (ac, sa, an) _).mono ?_; rintro e w1 ⟨he, hb⟩; rw [HF.out] at he; subst he; have hA1 := hA0.below hb hA0.lt; have hB1 := hB0.below hb hB0.lt; have hR1 := hR0.below hb hR0.lt; have HB1 := hidI (HB0.out.trans (hb.mono HB0.out.size)); clear hb HB0 hA0 hB0 hR0)
    | ((with_reducible refine g_load 24 ?_ rfl); have _t := HB1; refine st_loadR 24 (by rfl) rfl rfl hA1 Try.underlying24 rfl info24 ?_)
    | (go_at_call 25; have _t := HB1; refine (hv _ _ _ _ hsA).mono ?_; rintro e w2 ⟨he, hb⟩; rw [hvA.out] at he; subst he; have hA2 := hA1.below hb hA1.lt; have hB2 := hB1.below hb hB1.lt; have hR2 := hR1.below hb hR1.lt; have HB2 := hidI (HB1.out.trans (hb.mono HB1.out.size)); clear hb HB1 hA1 hB1 hR1)
    | ((with_reducible refine g_load 24 ?_ rfl); have _t := HB2; refine st_loadR 24 (by rfl) rfl rfl hB2 Try.underlying24 rfl info24 ?_)
    | (go_at_call 25; have _t := HB2; refine (hv _ _ _ _ hsB).mono ?_; rintro e w3 ⟨he, hb⟩; rw [hvB.out] at he; subst he; have hA3 := hA2.below hb hA2.lt; have hB3 := hB2.below hb hB2.lt; have hR3 := hR2.below hb hR2.lt; have HB3 := hidI (HB2.out.trans (hb.mono HB2.out.size)); clear hb HB2 hA2 hB2 hR2)
    | ((with_reducible refine g_store 24 ?_ rfl); have _t := HB3; refine st_storeR 24 (by rfl) rfl rfl rfl hR3 rfl info24 (by simp [Value.oneCell']) ?_; intro w4 hR4 hu; have HB4 := hidI (HB3.out.trans (hu.below (by omega))); clear hR3 HB3 hu hA3 hB3))
  exact bodyPost_ret (hR4.res2 (v := .int .i64 1) rfl _ rfl rfl Try.underlying24 rfl info24) rfl ⟨rfl, HB4.out⟩
theorem bin_nil (hv : ValidC) (o : ByteArray) (a b : VV) (w : World) (hf : opF o a = .nilFunc) : Calls Try.prog 23 #[.string o, vv a, vv b] w fun e w' => e = .returned (vr (ve 1)) ∧ Below w.heap.size w w' := by
  obtain ⟨ac, sa, an⟩ := a
  obtain ⟨bc, sb, bn⟩ := b
  have HF := hidI hf
  clear hf
  have hA0 := ((RB.new w 24 #[.int .i64 ac, .string sa, .int .i64 an]).alloc (.cells #[.int .i64 bc, .string sb, .int .i64 bn] 24)).alloc (.cells #[.int .i64 0, .string ⟨#[]⟩, .int .i64 0] 24)
  have hB0 := (RB.new (w.alloc (.cells #[.int .i64 ac, .string sa, .int .i64 an] 24)) 24 #[.int .i64 bc, .string sb, .int .i64 bn]).alloc (.cells #[.int .i64 0, .string ⟨#[]⟩, .int .i64 0] 24)
  have hR0 := RB.new ((w.alloc (.cells #[.int .i64 ac, .string sa, .int .i64 an] 24)).alloc (.cells #[.int .i64 bc, .string sb, .int .i64 bn] 24)) 24 #[.int .i64 0, .string ⟨#[]⟩, .int .i64 0]
  rw [size1, size1] at hR0
  rw [size1] at hB0
  have HB0 := hidI (below_a (below_a (below_a (Below.refl w.heap.size w) (.cells #[.int .i64 ac, .string sa, .int .i64 an] 24)) (.cells #[.int .i64 bc, .string sb, .int .i64 bn] 24)) (.cells #[.int .i64 0, .string ⟨#[]⟩, .int .i64 0] 24))
  have hq1 := eq_fn
  have hq2 := eq_nilfn
  go_enter Try.func23, Try.ntmps23
  go_wp2_with (first
    | (go_at_call 31; have _t := HB0; refine (op_v o (ac, sa, an) _).mono ?_; rintro e w1 ⟨he, hb⟩; rw [HF.out] at he; subst he; have hA1 := hA0.below hb hA0.lt; have hB1 := hB0.below hb hB0.lt; have hR1 := hR0.below hb hR0.lt; have HB1 := hidI (HB0.out.trans (hb.mono HB0.out.size)); clear hb HB0 hA0 hB0 hR0)
    | ((with_reducible refine g_store 24 ?_ rfl); have _t := HB1; refine st_storeR 24 (by rfl) rfl rfl rfl hR1 rfl info24 (by simp [Value.oneCell']) ?_; intro w2 hR2 hu; have HB2 := hidI (HB1.out.trans (hu.below (by omega))); clear hR1 HB1 hu hA1 hB1))
  exact bodyPost_ret (hR2.res2 (v := .int .i64 1) rfl _ rfl rfl Try.underlying24 rfl info24) rfl ⟨rfl, HB2.out⟩
theorem bin_fin (hv : ValidC) (o : ByteArray) (a b : VV) (w : World) (k : Nat) (S : VE) (hsa : a.2.1.size ≤ 1000) (hsb : b.2.1.size ≤ 1000) (hf : opF o a = .func (.func k) #[vv a] #[]) (ho : isOp o = true) (hS : opS o a b = S)
    (hc : validS a.1 a.2.1 a.2.2 = true → validS b.1 b.2.1 b.2.2 = true → Calls Try.prog 23 #[.string o, vv a, vv b] w fun e w' => e = .returned (vr S) ∧ Below w.heap.size w w') :
    Calls Try.prog 23 #[.string o, vv a, vv b] w fun e w' => e = .returned (vr (binS o a b)) ∧ Below w.heap.size w w' := by
  cases ha : validS a.1 a.2.1 a.2.2
  · have e : binS o a b = ve 1 := by unfold binS; rw [if_neg (by rw [ha]; simp)]
    rw [e]; exact bin_bad1 hv o a b w k hf hsa ha
  · cases hb : validS b.1 b.2.1 b.2.2
    · have e : binS o a b = ve 1 := by unfold binS; rw [if_neg (by rw [hb]; simp)]
      rw [e]; exact bin_bad2 hv o a b w k hf hsa hsb ha hb
    · have e : binS o a b = S := by unfold binS; rw [if_pos ⟨ho, ha, hb⟩, hS]
      rw [e]; exact hc ha hb
theorem bin_all (hv : ValidC) (o : ByteArray) (a b : VV) (w : World) (hsa : a.2.1.size ≤ 1000) (hsb : b.2.1.size ≤ 1000) :
    Calls Try.prog 23 #[.string o, vv a, vv b] w fun e w' => e = .returned (vr (binS o a b)) ∧ Below w.heap.size w w' := by
  cases h0 : sIs o [43]
  case true =>
    exact bin_fin hv o a b w 39 (addS a b) hsa hsb (by unfold opF; rw [if_pos h0]) (by simp [isOp, h0]) (by unfold opS; rw [if_pos h0]) (fun ha hb => bin39_v hv o a b w (by unfold opF; rw [if_pos h0]) hsa hsb ha hb)
  case false =>
    cases h1 : sIs o [45]
    case true =>
      exact bin_fin hv o a b w 40 (subS a b) hsa hsb (by unfold opF; rw [if_neg (by rw [h0]; decide), if_pos h1]) (by simp [isOp, h1]) (by unfold opS; rw [if_neg (by rw [h0]; decide), if_pos h1]) (fun ha hb => bin40_v hv o a b w (by unfold opF; rw [if_neg (by rw [h0]; decide), if_pos h1]) hsa hsb ha hb)
    case false =>
      cases h2 : sIs o [42]
      case true =>
        exact bin_fin hv o a b w 41 (numS mulF a b) hsa hsb (by unfold opF; rw [if_neg (by rw [h0]; decide), if_neg (by rw [h1]; decide), if_pos h2]) (by simp [isOp, h2]) (by unfold opS; rw [if_neg (by rw [h0]; decide), if_neg (by rw [h1]; decide), if_pos h2]) (fun ha hb => bin41_v hv o a b w (by unfold opF; rw [if_neg (by rw [h0]; decide), if_neg (by rw [h1]; decide), if_pos h2]) hsa hsb ha hb)
      case false =>
        cases h3 : sIs o [47]
        case true =>
          exact bin_fin hv o a b w 42 (divS a b) hsa hsb (by unfold opF; rw [if_neg (by rw [h0]; decide), if_neg (by rw [h1]; decide), if_neg (by rw [h2]; decide), if_pos h3]) (by simp [isOp, h3]) (by unfold opS; rw [if_neg (by rw [h0]; decide), if_neg (by rw [h1]; decide), if_neg (by rw [h2]; decide), if_pos h3]) (fun ha hb => bin42_v hv o a b w (by unfold opF; rw [if_neg (by rw [h0]; decide), if_neg (by rw [h1]; decide), if_neg (by rw [h2]; decide), if_pos h3]) hsa hsb ha hb)
        case false =>
          cases h4 : sIs o [38]
          case true =>
            exact bin_fin hv o a b w 43 (numS andF a b) hsa hsb (by unfold opF; rw [if_neg (by rw [h0]; decide), if_neg (by rw [h1]; decide), if_neg (by rw [h2]; decide), if_neg (by rw [h3]; decide), if_pos h4]) (by simp [isOp, h4]) (by unfold opS; rw [if_neg (by rw [h0]; decide), if_neg (by rw [h1]; decide), if_neg (by rw [h2]; decide), if_neg (by rw [h3]; decide), if_pos h4]) (fun ha hb => bin43_v hv o a b w (by unfold opF; rw [if_neg (by rw [h0]; decide), if_neg (by rw [h1]; decide), if_neg (by rw [h2]; decide), if_neg (by rw [h3]; decide), if_pos h4]) hsa hsb ha hb)
          case false =>
            cases h5 : sIs o [124]
            case true =>
              exact bin_fin hv o a b w 44 (numS orF a b) hsa hsb (by unfold opF; rw [if_neg (by rw [h0]; decide), if_neg (by rw [h1]; decide), if_neg (by rw [h2]; decide), if_neg (by rw [h3]; decide), if_neg (by rw [h4]; decide), if_pos h5]) (by simp [isOp, h5]) (by unfold opS; rw [if_neg (by rw [h0]; decide), if_neg (by rw [h1]; decide), if_neg (by rw [h2]; decide), if_neg (by rw [h3]; decide), if_neg (by rw [h4]; decide)]) (fun ha hb => bin44_v hv o a b w (by unfold opF; rw [if_neg (by rw [h0]; decide), if_neg (by rw [h1]; decide), if_neg (by rw [h2]; decide), if_neg (by rw [h3]; decide), if_neg (by rw [h4]; decide), if_pos h5]) hsa hsb ha hb)
            case false =>
              have e : binS o a b = ve 1 := by unfold binS; rw [if_neg (by simp [isOp, h0, h1, h2, h3, h4, h5])]
              rw [e]; exact bin_nil hv o a b w (by unfold opF; rw [if_neg (by rw [h0]; decide), if_neg (by rw [h1]; decide), if_neg (by rw [h2]; decide), if_neg (by rw [h3]; decide), if_neg (by rw [h4]; decide), if_neg (by rw [h5]; decide)])
theorem binary_own (hv : ValidC) (a0 : ByteArray) (a1_0 : Int) (a1_1 : ByteArray) (a1_2 : Int) (a2_0 : Int) (a2_1 : ByteArray) (a2_2 : Int) (r1 : Int) (r2 : ByteArray) (r3 : Int) (r4 : Int) (w : World)
    (h : (if a1_1.size ≤ 1000 ∧ a2_1.size ≤ 1000 then some ((binS a0 (a1_0, a1_1, a1_2) (a2_0, a2_1, a2_2)).1.1, (binS a0 (a1_0, a1_1, a1_2) (a2_0, a2_1, a2_2)).1.2.1, (binS a0 (a1_0, a1_1, a1_2) (a2_0, a2_1, a2_2)).1.2.2, (binS a0 (a1_0, a1_1, a1_2) (a2_0, a2_1, a2_2)).2) else none) = some (r1, r2, r3, r4)) :
    Calls Try.prog 23 #[.string a0, .agg #[.int .i64 a1_0, .string a1_1, .int .i64 a1_2], .agg #[.int .i64 a2_0, .string a2_1, .int .i64 a2_2]] w fun e w' => e = .returned (.tuple #[.agg #[.int .i64 r1, .string r2, .int .i64 r3], .int .i64 r4]) ∧ Below w.heap.size w w' := by
  by_cases hs : a1_1.size ≤ 1000 ∧ a2_1.size ≤ 1000
  · rw [if_pos hs] at h
    simp only [Option.some.injEq, Prod.mk.injEq] at h
    obtain ⟨rfl, rfl, rfl, rfl⟩ := h
    exact bin_all hv a0 (a1_0, a1_1, a1_2) (a2_0, a2_1, a2_2) w hs.1 hs.2
  · rw [if_neg hs] at h; cases h
end Go.Proofs.Ytpinoobgnnlccaa.A

-- Written by a program of this session (mp.py) over the kit's print.py, with proofs by hand for what the print does not take.
namespace Go.Proofs.Ytpinoobgnnlccaa.A
open Go.RowKit Go.Proofs.YtpinoobgnnlccaaW.PrintWords Go.Proofs.YtpinoobgnnlccaaW.PrintLast Go.Proofs.YtpinoobgnnlccaaW.PrintMore
attribute [local go_sem] max2_int min2_int max_two min_two max_three min_three max_four min_four   -- for this text's walks alone
set_option linter.unusedVariables false
set_option linter.unusedSimpArgs false
/-- A state of type 53 at block g of W; what its slices lead to came in by w0. -/
def IsS53 (w0 W : World) (g : Nat) (f0 : List (S38)) (f1 : Int) (f2 : List (S44)) (f3 : Int) (f4 : ByteArray) (f5 : Int) : Prop := ∃ A0 c0, ∃ A2 c2, W.heap[g]? = some (.cells #[.slice A0 f0.length c0, .int .i64 f1, .slice A2 f2.length c2, .int .i64 f3, .string f4, .int .i64 f5] 53 (0, 0)) ∧ w0.heap.size ≤ g ∧ Kd.C k38 w0 A0 f0.length f0 ∧ Kd.C k44 w0 A2 f2.length f2
theorem IsS53.grown {w0 W : World} {g : Nat} {f0 : List (S38)} {f1 : Int} {f2 : List (S44)} {f3 : Int} {f4 : ByteArray} {f5 : Int} {W1 : World} {row : Option Nat} (h : IsS53 w0 W g f0 f1 f2 f3 f4 f5) (hw : W.grownBy W1 row) (hne : some g ≠ row) : IsS53 w0 W1 g f0 f1 f2 f3 f4 f5 := by
  obtain ⟨A0, c0, A2, c2, hb, hg, hr0, hr2⟩ := h
  exact ⟨A0, c0, A2, c2, blk_grown hb hw hne, hg, hr0, hr2⟩
theorem IsS53.own_neN {w0 W : World} {g : Nat} {f0 : List (S38)} {f1 : Int} {f2 : List (S44)} {f3 : Int} {f4 : ByteArray} {f5 : Int} {α : Type} {d : Kd α} {e : Nat} {base : Nat} {ok : Nat → Prop} {v : Value} {xs : List α} (h : IsS53 w0 W g f0 f1 f2 f3 f4 f5) (ho : Kd.N d e W base ok v xs) (ht : e ≠ 53) : some g ≠ v.ownBlock := by
  obtain ⟨A0, c0, A2, c2, hb, hg, hr0, hr2⟩ := h
  exact Kd.N_ne ho hb ht
theorem IsS53.fresh {w0 W : World} {g : Nat} {f0 : List (S38)} {f1 : Int} {f2 : List (S44)} {f3 : Int} {f4 : ByteArray} {f5 : Int} (h : IsS53 w0 W g f0 f1 f2 f3 f4 f5) : ∀ k, W.heap.size ≤ k → k ≠ g := by
  obtain ⟨A0, c0, A2, c2, hb, hg, hr0, hr2⟩ := h
  exact Kd.freshB hb
theorem IsS53.kept {w0 W : World} {g : Nat} {f0 : List (S38)} {f1 : Int} {f2 : List (S44)} {f3 : Int} {f4 : ByteArray} {f5 : Int} {W1 : World} {S : Nat → Prop} (h : IsS53 w0 W g f0 f1 f2 f3 f4 f5) (hk : Kept W W1 S) (hne : ¬ S g) : IsS53 w0 W1 g f0 f1 f2 f3 f4 f5 := by
  obtain ⟨A0, c0, A2, c2, hb, hg, hr0, hr2⟩ := h
  exact ⟨A0, c0, A2, c2, blk_kept hb hk hne, hg, hr0, hr2⟩
theorem IsS53.below {w0 W : World} {g : Nat} {f0 : List (S38)} {f1 : Int} {f2 : List (S44)} {f3 : Int} {f4 : ByteArray} {f5 : Int} {W1 : World} (h : IsS53 w0 W g f0 f1 f2 f3 f4 f5) (hw : Below W.heap.size W W1) : IsS53 w0 W1 g f0 f1 f2 f3 f4 f5 := h.grown (grown_of_below hw none) (by simp)
theorem IsS53.alloc {w0 W : World} {g : Nat} {f0 : List (S38)} {f1 : Int} {f2 : List (S44)} {f3 : Int} {f4 : ByteArray} {f5 : Int} (h : IsS53 w0 W g f0 f1 f2 f3 f4 f5) (o : Obj) : IsS53 w0 (W.alloc o) g f0 f1 f2 f3 f4 f5 := h.below (below_alloc (Below.refl _ _) o)
theorem IsS53.drewN {w0 W : World} {g : Nat} {f0 : List (S38)} {f1 : Int} {f2 : List (S44)} {f3 : Int} {f4 : ByteArray} {f5 : Int} (h : IsS53 w0 W g f0 f1 f2 f3 f4 f5) (m : Nat) : IsS53 w0 (W.drewN m) g f0 f1 f2 f3 f4 f5 := h
theorem IsS53.drew {w0 W : World} {g : Nat} {f0 : List (S38)} {f1 : Int} {f2 : List (S44)} {f3 : Int} {f4 : ByteArray} {f5 : Int} (h : IsS53 w0 W g f0 f1 f2 f3 f4 f5) : IsS53 w0 W.drew g f0 f1 f2 f3 f4 f5 := h
theorem IsS53.at_ {w0 W : World} {g : Nat} {f0 : List (S38)} {f1 : Int} {f2 : List (S44)} {f3 : Int} {f4 : ByteArray} {f5 : Int} {w' : World} {m : Nat} (hq : W.drewN m = w') (h : IsS53 w0 W g f0 f1 f2 f3 f4 f5) : IsS53 w0 w' g f0 f1 f2 f3 f4 f5 := by subst hq; exact IsS53.drewN h m
theorem IsS53.apart {w0 W : World} {g : Nat} {f0 : List (S38)} {f1 : Int} {f2 : List (S44)} {f3 : Int} {f4 : ByteArray} {f5 : Int} {α : Type} {d : Kd α} {e : Nat} {base : Nat} {ok : Nat → Prop} {v : Value} {xs : List α} (h : IsS53 w0 W g f0 f1 f2 f3 f4 f5) (ho : d.R e W base ok v xs) (ht : ∀ q, q ∈ e :: d.E → q ≠ 53) : d.R e W base (fun k => ok k ∧ k ≠ g) v xs := by
  obtain ⟨A0, c0, A2, c2, hb, hg, hr0, hr2⟩ := h
  exact Kd.R_types ho hb ht
theorem IsS53.own_ne {w0 W : World} {g : Nat} {f0 : List (S38)} {f1 : Int} {f2 : List (S44)} {f3 : Int} {f4 : ByteArray} {f5 : Int} {α : Type} {d : Kd α} {e : Nat} {base : Nat} {ok : Nat → Prop} {v : Value} {xs : List α} (h : IsS53 w0 W g f0 f1 f2 f3 f4 f5) (ho : d.R e W base ok v xs) (ht : e ≠ 53) : some g ≠ v.ownBlock := by
  obtain ⟨A0, c0, A2, c2, hb, hg, hr0, hr2⟩ := h
  exact Kd.R_ne ho hb ht
theorem IsS53.apartQ {w0 W : World} {g : Nat} {f0 : List (S38)} {f1 : Int} {f2 : List (S44)} {f3 : Int} {f4 : ByteArray} {f5 : Int} {α : Type} {d : Kd α} {e : Nat} {base : Nat} {ok : Nat → Prop} {v : Value} {xs : List α} (h : IsS53 w0 W g f0 f1 f2 f3 f4 f5) (ho : d.Q e W base ok v xs) (ht : ∀ q, q ∈ e :: d.E → q ≠ 53) : d.Q e W base (fun k => ok k ∧ k ≠ g) v xs := by
  obtain ⟨A0, c0, A2, c2, hb, hg, hr0, hr2⟩ := h
  exact Kd.Q_types ho hb ht
theorem IsS53.own_neQ {w0 W : World} {g : Nat} {f0 : List (S38)} {f1 : Int} {f2 : List (S44)} {f3 : Int} {f4 : ByteArray} {f5 : Int} {α : Type} {d : Kd α} {e : Nat} {base : Nat} {ok : Nat → Prop} {v : Value} {xs : List α} (h : IsS53 w0 W g f0 f1 f2 f3 f4 f5) (ho : d.Q e W base ok v xs) (ht : e ≠ 53) : some g ≠ v.ownBlock := by
  obtain ⟨A0, c0, A2, c2, hb, hg, hr0, hr2⟩ := h
  exact Kd.Q_ne ho hb ht
theorem IsS53.apartS {w0 W : World} {g : Nat} {f0 : List (S38)} {f1 : Int} {f2 : List (S44)} {f3 : Int} {f4 : ByteArray} {f5 : Int} {α : Type} {d : Kd α} {e : Nat} {base : Nat} {ok : Nat → Prop} {v : Value} {xs : List α} (h : IsS53 w0 W g f0 f1 f2 f3 f4 f5) (ho : d.S e W base ok v xs) (ht : ∀ q, q ∈ e :: d.E → q ≠ 53) : d.S e W base (fun k => ok k ∧ k ≠ g) v xs := by
  obtain ⟨A0, c0, A2, c2, hb, hg, hr0, hr2⟩ := h
  exact Kd.S_types ho hb ht
theorem IsS53.own_neS {w0 W : World} {g : Nat} {f0 : List (S38)} {f1 : Int} {f2 : List (S44)} {f3 : Int} {f4 : ByteArray} {f5 : Int} {α : Type} {d : Kd α} {e : Nat} {base : Nat} {ok : Nat → Prop} {v : Value} {xs : List α} (h : IsS53 w0 W g f0 f1 f2 f3 f4 f5) (ho : d.S e W base ok v xs) (ht : e ≠ 53) : some g ≠ v.ownBlock := by
  obtain ⟨A0, c0, A2, c2, hb, hg, hr0, hr2⟩ := h
  exact Kd.S_ne ho hb ht
theorem IsS53.lt {w0 W : World} {g : Nat} {f0 : List (S38)} {f1 : Int} {f2 : List (S44)} {f3 : Int} {f4 : ByteArray} {f5 : Int} (h : IsS53 w0 W g f0 f1 f2 f3 f4 f5) : g < W.heap.size := by
  obtain ⟨A0, c0, A2, c2, hb, hg, hr0, hr2⟩ := h
  exact blk_lt hb
theorem IsS53.ge {w0 W : World} {g : Nat} {f0 : List (S38)} {f1 : Int} {f2 : List (S44)} {f3 : Int} {f4 : ByteArray} {f5 : Int} (h : IsS53 w0 W g f0 f1 f2 f3 f4 f5) : w0.heap.size ≤ g := by
  obtain ⟨A0, c0, A2, c2, hb, hg, hr0, hr2⟩ := h
  exact hg
theorem IsS53.ne_blk {w0 W : World} {g : Nat} {f0 : List (S38)} {f1 : Int} {f2 : List (S44)} {f3 : Int} {f4 : ByteArray} {f5 : Int} {a : Nat} {cs : Array Value} {t : TypeId} {fr : Nat × Nat} (h : IsS53 w0 W g f0 f1 f2 f3 f4 f5) (hb2 : W.heap[a]? = some (.cells cs t fr)) (ht : t ≠ 53) : g ≠ a := by
  obtain ⟨A0, c0, A2, c2, hb, hg, hr0, hr2⟩ := h
  rintro rfl
  rw [hb] at hb2
  injection hb2 with hb2
  injection hb2 with _ ht2
  exact ht ht2.symm
theorem IsS53.far {w0 W : World} {g : Nat} {f0 : List (S38)} {f1 : Int} {f2 : List (S44)} {f3 : Int} {f4 : ByteArray} {f5 : Int} {p : Addr} (h : IsS53 w0 W g f0 f1 f2 f3 f4 f5) (hne : g ≠ p.block) (u : Value) : IsS53 w0 (W.setCell p u) g f0 f1 f2 f3 f4 f5 := by
  obtain ⟨A0, c0, A2, c2, hb, hg, hr0, hr2⟩ := h
  exact ⟨A0, c0, A2, c2, blk_far hb hne u, hg, hr0, hr2⟩
theorem cellS53_0 {W : World} {g : Nat} {A0 : Option Addr} {c0 : Nat} {A2 : Option Addr} {c2 : Nat} {f0 : List (S38)} {f1 : Int} {f2 : List (S44)} {f3 : Int} {f4 : ByteArray} {f5 : Int} (h : W.heap[g]? = some (.cells #[.slice A0 f0.length c0, .int .i64 f1, .slice A2 f2.length c2, .int .i64 f3, .string f4, .int .i64 f5] 53 (0, 0))) : W.cell? ⟨g, 0, none⟩ = some (.slice A0 f0.length c0) := (blk_cell h 0).trans rfl
theorem cellS53_1 {W : World} {g : Nat} {A0 : Option Addr} {c0 : Nat} {A2 : Option Addr} {c2 : Nat} {f0 : List (S38)} {f1 : Int} {f2 : List (S44)} {f3 : Int} {f4 : ByteArray} {f5 : Int} (h : W.heap[g]? = some (.cells #[.slice A0 f0.length c0, .int .i64 f1, .slice A2 f2.length c2, .int .i64 f3, .string f4, .int .i64 f5] 53 (0, 0))) : W.cell? ⟨g, 1, none⟩ = some (.int .i64 f1) := (blk_cell h 1).trans rfl
theorem IsS53.set_1 {w0 W : World} {g : Nat} {f0 : List (S38)} {f1 : Int} {f2 : List (S44)} {f3 : Int} {f4 : ByteArray} {f5 : Int} (h : IsS53 w0 W g f0 f1 f2 f3 f4 f5) (x : Int) : IsS53 w0 (W.setCell ⟨g, 1, none⟩ (.int .i64 x)) g f0 x f2 f3 f4 f5 := by
  obtain ⟨A0, c0, A2, c2, hb, hg, hr0, hr2⟩ := h
  exact ⟨A0, c0, A2, c2, by simpa using blk_set hb 1 (.int .i64 x), hg, hr0, hr2⟩
theorem cellS53_2 {W : World} {g : Nat} {A0 : Option Addr} {c0 : Nat} {A2 : Option Addr} {c2 : Nat} {f0 : List (S38)} {f1 : Int} {f2 : List (S44)} {f3 : Int} {f4 : ByteArray} {f5 : Int} (h : W.heap[g]? = some (.cells #[.slice A0 f0.length c0, .int .i64 f1, .slice A2 f2.length c2, .int .i64 f3, .string f4, .int .i64 f5] 53 (0, 0))) : W.cell? ⟨g, 2, none⟩ = some (.slice A2 f2.length c2) := (blk_cell h 2).trans rfl
theorem cellS53_3 {W : World} {g : Nat} {A0 : Option Addr} {c0 : Nat} {A2 : Option Addr} {c2 : Nat} {f0 : List (S38)} {f1 : Int} {f2 : List (S44)} {f3 : Int} {f4 : ByteArray} {f5 : Int} (h : W.heap[g]? = some (.cells #[.slice A0 f0.length c0, .int .i64 f1, .slice A2 f2.length c2, .int .i64 f3, .string f4, .int .i64 f5] 53 (0, 0))) : W.cell? ⟨g, 3, none⟩ = some (.int .i64 f3) := (blk_cell h 3).trans rfl
theorem IsS53.set_3 {w0 W : World} {g : Nat} {f0 : List (S38)} {f1 : Int} {f2 : List (S44)} {f3 : Int} {f4 : ByteArray} {f5 : Int} (h : IsS53 w0 W g f0 f1 f2 f3 f4 f5) (x : Int) : IsS53 w0 (W.setCell ⟨g, 3, none⟩ (.int .i64 x)) g f0 f1 f2 x f4 f5 := by
  obtain ⟨A0, c0, A2, c2, hb, hg, hr0, hr2⟩ := h
  exact ⟨A0, c0, A2, c2, by simpa using blk_set hb 3 (.int .i64 x), hg, hr0, hr2⟩
theorem cellS53_4 {W : World} {g : Nat} {A0 : Option Addr} {c0 : Nat} {A2 : Option Addr} {c2 : Nat} {f0 : List (S38)} {f1 : Int} {f2 : List (S44)} {f3 : Int} {f4 : ByteArray} {f5 : Int} (h : W.heap[g]? = some (.cells #[.slice A0 f0.length c0, .int .i64 f1, .slice A2 f2.length c2, .int .i64 f3, .string f4, .int .i64 f5] 53 (0, 0))) : W.cell? ⟨g, 4, none⟩ = some (.string f4) := (blk_cell h 4).trans rfl
theorem IsS53.set_4 {w0 W : World} {g : Nat} {f0 : List (S38)} {f1 : Int} {f2 : List (S44)} {f3 : Int} {f4 : ByteArray} {f5 : Int} (h : IsS53 w0 W g f0 f1 f2 f3 f4 f5) (x : ByteArray) : IsS53 w0 (W.setCell ⟨g, 4, none⟩ (.string x)) g f0 f1 f2 f3 x f5 := by
  obtain ⟨A0, c0, A2, c2, hb, hg, hr0, hr2⟩ := h
  exact ⟨A0, c0, A2, c2, by simpa using blk_set hb 4 (.string x), hg, hr0, hr2⟩
theorem cellS53_5 {W : World} {g : Nat} {A0 : Option Addr} {c0 : Nat} {A2 : Option Addr} {c2 : Nat} {f0 : List (S38)} {f1 : Int} {f2 : List (S44)} {f3 : Int} {f4 : ByteArray} {f5 : Int} (h : W.heap[g]? = some (.cells #[.slice A0 f0.length c0, .int .i64 f1, .slice A2 f2.length c2, .int .i64 f3, .string f4, .int .i64 f5] 53 (0, 0))) : W.cell? ⟨g, 5, none⟩ = some (.int .i64 f5) := (blk_cell h 5).trans rfl
theorem IsS53.set_5 {w0 W : World} {g : Nat} {f0 : List (S38)} {f1 : Int} {f2 : List (S44)} {f3 : Int} {f4 : ByteArray} {f5 : Int} (h : IsS53 w0 W g f0 f1 f2 f3 f4 f5) (x : Int) : IsS53 w0 (W.setCell ⟨g, 5, none⟩ (.int .i64 x)) g f0 f1 f2 f3 f4 x := by
  obtain ⟨A0, c0, A2, c2, hb, hg, hr0, hr2⟩ := h
  exact ⟨A0, c0, A2, c2, by simpa using blk_set hb 5 (.int .i64 x), hg, hr0, hr2⟩
theorem IsS53.new (w0 W : World) (A0 : Option Addr) (c0 : Nat) (A2 : Option Addr) (c2 : Nat) (f0 : List (S38)) (f1 : Int) (f2 : List (S44)) (f3 : Int) (f4 : ByteArray) (f5 : Int) (hB : Below w0.heap.size w0 W) (hr0 : Kd.C k38 w0 A0 f0.length f0) (hr2 : Kd.C k44 w0 A2 f2.length f2) : IsS53 w0 (W.alloc (.cells #[.slice A0 f0.length c0, .int .i64 f1, .slice A2 f2.length c2, .int .i64 f3, .string f4, .int .i64 f5] 53)) W.heap.size f0 f1 f2 f3 f4 f5 := ⟨A0, c0, A2, c2, by simpa using heap_alloc_new W _, hB.size, hr0, hr2⟩
/-! ### asmexpr_reader_symbol: function 35 -/
def asmexpr_reader_symbol.f (s0_0 : List (S38)) (s0_1 : Int) (s0_2 : List (S44)) (s0_3 : Int) (s0_4 : ByteArray) (s0_5 : Int) : Option (ByteArray × Int × Int × ByteArray × Int) := if s0_1 < (s0_0.length : Int) then (if 0 ≤ s0_1 then (if ((rd_T38 s0_0 s0_1).f0) = 4 then (some ((rd_T38 s0_0 s0_1).f1, s0_1, s0_3, s0_4, s0_5)) else (some ((⟨#[]⟩ : ByteArray), s0_1, s0_3, s0_4, s0_5))) else (none)) else (some ((⟨#[]⟩ : ByteArray), s0_1, s0_3, s0_4, s0_5))
set_option maxHeartbeats 8000000 in
set_option maxRecDepth 100000 in
theorem asmexpr_reader_symbol.calls (g : Nat) (s0_0 : List (S38)) (s0_1 : Int) (s0_2 : List (S44)) (s0_3 : Int) (s0_4 : ByteArray) (s0_5 : Int) (r1 : ByteArray) (r2 : Int) (r3 : Int) (r4 : ByteArray) (r5 : Int) (w0 w : World) (hI : IsS53 w0 w g s0_0 s0_1 s0_2 s0_3 s0_4 s0_5) (hB : Below w0.heap.size w0 w) (h : asmexpr_reader_symbol.f s0_0 s0_1 s0_2 s0_3 s0_4 s0_5 = some (r1, r2, r3, r4, r5)) :
    Calls Try.prog 35 #[.pointer (some ⟨g, 0, none⟩)] w fun e w' => e = .returned (.string r1) ∧ IsS53 w0 w' g s0_0 r2 s0_2 r3 r4 r5 ∧ Below w0.heap.size w0 w' ∧ KeepBut w w' g none := by
  have HI0 := Aside0.mk hI
  have HK := Aside0.mk (KeepBut.refl w g none)
  have HL := Aside0.mk hB.size
  clear hI
  have HW0 := Aside0.mk hB.size
  have HB := Aside0.mk hB
  clear hB
  have H : (if s0_1 < (s0_0.length : Int) then (if 0 ≤ s0_1 then (if ((rd_T38 s0_0 s0_1).f0) = 4 then (some ((rd_T38 s0_0 s0_1).f1, s0_1, s0_3, s0_4, s0_5)) else (some ((⟨#[]⟩ : ByteArray), s0_1, s0_3, s0_4, s0_5))) else (none)) else (some ((⟨#[]⟩ : ByteArray), s0_1, s0_3, s0_4, s0_5))) = some (r1, r2, r3, r4, r5) := h
  clear h
  by_cases c2 : s0_1 < (s0_0.length : Int)
  · rw [if_pos c2] at H
    have c2b0 : decide (s0_1 < (s0_0.length : Int)) = true := decide_eq_true c2
    clear c2
    by_cases c3 : 0 ≤ s0_1
    · rw [if_pos c3] at H
      have c3b0 : decide (0 ≤ s0_1) = true := decide_eq_true c3
      clear c3
      by_cases c4 : ((rd_T38 s0_0 s0_1).f0) = 4
      · rw [if_pos c4] at H
        have c4b0 : (((rd_T38 s0_0 s0_1).f0) == 4) = true := beq_iff_eq.mpr c4
        have c4b1 : (((rd_T38 s0_0 s0_1).f0) != 4) = false := bne_eq_false_iff_eq.mpr c4
        clear c4
        simp only [Option.some.injEq, Prod.mk.injEq] at H
        obtain ⟨rfl, rfl, rfl, rfl, rfl⟩ := H
        obtain ⟨ASz5_0, cSz5_0, ASz5_2, cSz5_2, HGz5, hgz5, HSz5_0, HSz5_2⟩ := HI0.out
        have hcz5_0 := cellS53_0 HGz5
        have hcz5_1 := cellS53_1 HGz5
        have hcz5_2 := cellS53_2 HGz5
        have hcz5_3 := cellS53_3 HGz5
        have hcz5_4 := cellS53_4 HGz5
        have hcz5_5 := cellS53_5 HGz5
        have hfz5_1 := blk_frozen HGz5 1
        have hfz5_3 := blk_frozen HGz5 3
        have hfz5_4 := blk_frozen HGz5 4
        have hfz5_5 := blk_frozen HGz5 5
        clear HGz5 hgz5
        have p203 : 0 ≤ (s0_1 : Int) := of_decide_eq_true (by first | (with_reducible assumption) | assumption)
        have q203 : s0_1 < (s0_0.length : Int) := of_decide_eq_true (by first | (with_reducible assumption) | assumption)
        obtain ⟨ad203, e203, hx203_0, hx203_1, hx203_2, hx203_3⟩ := at_T38 HSz5_0 s0_1 p203 q203
        cases e203
        replace hx203_0 := pw_cell_below HB.out hx203_0
        replace hx203_1 := pw_cell_below HB.out hx203_1
        replace hx203_2 := pw_cell_below HB.out hx203_2
        replace hx203_3 := pw_cell_below HB.out hx203_3
        replace p203 := eq_true p203
        replace q203 := eq_true q203
        have p204 : 0 ≤ (s0_1 : Int) := of_decide_eq_true (by first | (with_reducible assumption) | assumption)
        have q204 : s0_1 < (s0_0.length : Int) := of_decide_eq_true (by first | (with_reducible assumption) | assumption)
        obtain ⟨ad204, e204, hx204_0, hx204_1, hx204_2, hx204_3⟩ := at_T38 HSz5_0 s0_1 p204 q204
        obtain rfl : ad203 = ad204 := (by injection e204)
        replace hx204_0 := pw_cell_below HB.out hx204_0
        replace hx204_1 := pw_cell_below HB.out hx204_1
        replace hx204_2 := pw_cell_below HB.out hx204_2
        replace hx204_3 := pw_cell_below HB.out hx204_3
        replace p204 := eq_true p204
        replace q204 := eq_true q204
        go_enter Try.func35, Try.ntmps35
        go_wp2
        repeat (go_quiet (fail); try go_wp2)
        go_ret
        exact ⟨by first | rfl | (simp [errW_none, errW_some] <;> rfl) | (simp [*, errW_none, errW_some] <;> rfl), by repeat (first | (with_reducible first | exact HI0.out | apply IsS53.alloc | apply IsS53.drewN | apply IsS53.drew | apply IsS53.set_1 | apply IsS53.set_3 | apply IsS53.set_4 | apply IsS53.set_5) | exact HI0.out), by repeat (first | (with_reducible first | exact HB.out | apply below_alloc | apply pw_below_drewN | apply below_drew1 | refine below_set ?_ (IsS53.ge HI0.out)) | exact HB.out), by repeat (first | (with_reducible first | exact HK.out | apply KeepBut.set_ | apply keep_drewN | apply keep_drew | apply keep_alloc) | exact HK.out)⟩
      · rw [if_neg c4] at H
        have c4b0 : (((rd_T38 s0_0 s0_1).f0) == 4) = false := beq_eq_false_iff_ne.mpr c4
        have c4b1 : (((rd_T38 s0_0 s0_1).f0) != 4) = true := bne_iff_ne.mpr c4
        simp only [Option.some.injEq, Prod.mk.injEq] at H
        obtain ⟨rfl, rfl, rfl, rfl, rfl⟩ := H
        obtain ⟨ASz6_0, cSz6_0, ASz6_2, cSz6_2, HGz6, hgz6, HSz6_0, HSz6_2⟩ := HI0.out
        have hcz6_0 := cellS53_0 HGz6
        have hcz6_1 := cellS53_1 HGz6
        have hcz6_2 := cellS53_2 HGz6
        have hcz6_3 := cellS53_3 HGz6
        have hcz6_4 := cellS53_4 HGz6
        have hcz6_5 := cellS53_5 HGz6
        have hfz6_1 := blk_frozen HGz6 1
        have hfz6_3 := blk_frozen HGz6 3
        have hfz6_4 := blk_frozen HGz6 4
        have hfz6_5 := blk_frozen HGz6 5
        clear HGz6 hgz6
        have p203 : 0 ≤ (s0_1 : Int) := of_decide_eq_true (by first | (with_reducible assumption) | assumption)
        have q203 : s0_1 < (s0_0.length : Int) := of_decide_eq_true (by first | (with_reducible assumption) | assumption)
        obtain ⟨ad203, e203, hx203_0, hx203_1, hx203_2, hx203_3⟩ := at_T38 HSz6_0 s0_1 p203 q203
        cases e203
        replace hx203_0 := pw_cell_below HB.out hx203_0
        replace hx203_1 := pw_cell_below HB.out hx203_1
        replace hx203_2 := pw_cell_below HB.out hx203_2
        replace hx203_3 := pw_cell_below HB.out hx203_3
        replace p203 := eq_true p203
        replace q203 := eq_true q203
        go_enter Try.func35, Try.ntmps35
        go_wp2
        repeat (go_quiet (fail); try go_wp2)
        go_ret
        exact ⟨by first | rfl | (simp [errW_none, errW_some] <;> rfl) | (simp [*, errW_none, errW_some] <;> rfl), by repeat (first | (with_reducible first | exact HI0.out | apply IsS53.alloc | apply IsS53.drewN | apply IsS53.drew | apply IsS53.set_1 | apply IsS53.set_3 | apply IsS53.set_4 | apply IsS53.set_5) | exact HI0.out), by repeat (first | (with_reducible first | exact HB.out | apply below_alloc | apply pw_below_drewN | apply below_drew1 | refine below_set ?_ (IsS53.ge HI0.out)) | exact HB.out), by repeat (first | (with_reducible first | exact HK.out | apply KeepBut.set_ | apply keep_drewN | apply keep_drew | apply keep_alloc) | exact HK.out)⟩
    · rw [if_neg c3] at H
      exact absurd H (by simp)
  · rw [if_neg c2] at H
    have c2b0 : decide (s0_1 < (s0_0.length : Int)) = false := decide_eq_false c2
    clear c2
    simp only [Option.some.injEq, Prod.mk.injEq] at H
    obtain ⟨rfl, rfl, rfl, rfl, rfl⟩ := H
    obtain ⟨ASz7_0, cSz7_0, ASz7_2, cSz7_2, HGz7, hgz7, HSz7_0, HSz7_2⟩ := HI0.out
    have hcz7_0 := cellS53_0 HGz7
    have hcz7_1 := cellS53_1 HGz7
    have hcz7_2 := cellS53_2 HGz7
    have hcz7_3 := cellS53_3 HGz7
    have hcz7_4 := cellS53_4 HGz7
    have hcz7_5 := cellS53_5 HGz7
    have hfz7_1 := blk_frozen HGz7 1
    have hfz7_3 := blk_frozen HGz7 3
    have hfz7_4 := blk_frozen HGz7 4
    have hfz7_5 := blk_frozen HGz7 5
    clear HGz7 hgz7
    go_enter Try.func35, Try.ntmps35
    go_wp2
    repeat (go_quiet (fail); try go_wp2)
    go_ret
    exact ⟨by first | rfl | (simp [errW_none, errW_some] <;> rfl) | (simp [*, errW_none, errW_some] <;> rfl), by repeat (first | (with_reducible first | exact HI0.out | apply IsS53.alloc | apply IsS53.drewN | apply IsS53.drew | apply IsS53.set_1 | apply IsS53.set_3 | apply IsS53.set_4 | apply IsS53.set_5) | exact HI0.out), by repeat (first | (with_reducible first | exact HB.out | apply below_alloc | apply pw_below_drewN | apply below_drew1 | refine below_set ?_ (IsS53.ge HI0.out)) | exact HB.out), by repeat (first | (with_reducible first | exact HK.out | apply KeepBut.set_ | apply keep_drewN | apply keep_drew | apply keep_alloc) | exact HK.out)⟩
/-! ### emulatorref26_scope_is: function 50 -/
def emulatorref26_scope_is.f (l0_0 : List (S38)) (l0_1 : List (S44)) (a0_2 : Int) (a0_3 : ByteArray) (a0_4 : Int) (a1 : Int) (a2 : ByteArray) : Option (Bool) := if a1 < (l0_0.length : Int) then (if 0 ≤ a1 then (if ((rd_T38 l0_0 a1).f0) = 4 then (some (((rd_T38 l0_0 a1).f1).toList == a2.toList)) else (some false)) else (none)) else (some false)
set_option maxHeartbeats 8000000 in
set_option maxRecDepth 100000 in
theorem emulatorref26_scope_is.calls (A0_0 : Option Addr) (c0_0 : Nat) (l0_0 : List (S38)) (A0_1 : Option Addr) (c0_1 : Nat) (l0_1 : List (S44)) (a0_2 : Int) (a0_3 : ByteArray) (a0_4 : Int) (a1 : Int) (a2 : ByteArray) (r : Bool) (w : World) (hr0_0 : Kd.C k38 w A0_0 l0_0.length l0_0) (hc0_0 : l0_0.length ≤ c0_0) (hr0_1 : Kd.C k44 w A0_1 l0_1.length l0_1) (hc0_1 : l0_1.length ≤ c0_1) (h : emulatorref26_scope_is.f l0_0 l0_1 a0_2 a0_3 a0_4 a1 a2 = some r) :
    Calls Try.prog 50 #[.agg #[.slice A0_0 l0_0.length c0_0, .slice A0_1 l0_1.length c0_1, .int .i64 a0_2, .string a0_3, .int .i64 a0_4], .int .i64 a1, .string a2] w fun e w' => e = .returned (.bool r) ∧ Below w.heap.size w w' := by
  have hu58 := Try.underlying58
  have HR0_0 := Aside0.mk hr0_0
  have HC0_0 := Aside0.mk hc0_0
  clear hr0_0 hc0_0
  have HR0_1 := Aside0.mk hr0_1
  have HC0_1 := Aside0.mk hc0_1
  clear hr0_1 hc0_1
  have HB := Aside0.mk (Below.refl w.heap.size w)
  have H : (if a1 < (l0_0.length : Int) then (if 0 ≤ a1 then (if ((rd_T38 l0_0 a1).f0) = 4 then (some (((rd_T38 l0_0 a1).f1).toList == a2.toList)) else (some false)) else (none)) else (some false)) = some r := h
  clear h
  by_cases c4 : a1 < (l0_0.length : Int)
  · rw [if_pos c4] at H
    have c4b0 : decide (a1 < (l0_0.length : Int)) = true := decide_eq_true c4
    clear c4
    by_cases c5 : 0 ≤ a1
    · rw [if_pos c5] at H
      have c5b0 : decide (0 ≤ a1) = true := decide_eq_true c5
      clear c5
      by_cases c6 : ((rd_T38 l0_0 a1).f0) = 4
      · rw [if_pos c6] at H
        have c6b0 : (((rd_T38 l0_0 a1).f0) == 4) = true := beq_iff_eq.mpr c6
        have c6b1 : (((rd_T38 l0_0 a1).f0) != 4) = false := bne_eq_false_iff_eq.mpr c6
        clear c6
        obtain rfl := Option.some.inj H
        go_enter Try.func50, Try.ntmps50
        go_wp2_with (first | ((with_reducible refine gate_dst (N := 3) rfl ?_); refine box_event ?hg (N := 3) ?hd (cs := #[.slice A0_0 l0_0.length c0_0, .slice A0_1 l0_1.length c0_1, .int .i64 a0_2, .string a0_3, .int .i64 a0_4]) (t := 58) ?hr ?_; (case hd => rfl); (case hg => rfl); (case hr => first | (go_simp; done) | (go_simp; rfl)); intro gb206 hg w7 hbox hb; have n0_ := Aside0.mk (below_step (by repeat (first | (with_reducible first | exact HB.out | apply below_alloc | apply pw_below_drewN | apply below_drew1) | exact HB.out)) hb); have n1_ := Aside0.mk (hbox); have n2_ := Aside0.mk ((by rw [hg]; exact (below_size (by repeat (first | (with_reducible first | exact HB.out | apply below_alloc | apply pw_below_drewN | apply below_drew1) | exact HB.out))) : w.heap.size ≤ gb206)); have n3_ := Aside0.mk ((by rw [hg]; exact (below_size (by repeat (first | (with_reducible first | exact HB.out | apply below_alloc | apply pw_below_drewN | apply below_drew1) | exact HB.out))) : w.heap.size ≤ gb206)); clear HB; have HB := n0_; have BK206 := n1_; have GW206 := n2_; have GE206 := n3_; clear n0_ n1_ n2_ n3_; clear hb hbox hg; have hcz8_0 : w7.cell? ⟨gb206, 0, none⟩ = some (.slice A0_0 l0_0.length c0_0) := (blk_cell BK206.out 0).trans rfl; have hcz8_1 : w7.cell? ⟨gb206, 1, none⟩ = some (.slice A0_1 l0_1.length c0_1) := (blk_cell BK206.out 1).trans rfl; have hcz8_2 : w7.cell? ⟨gb206, 2, none⟩ = some (.int .i64 a0_2) := (blk_cell BK206.out 2).trans rfl; have hcz8_3 : w7.cell? ⟨gb206, 3, none⟩ = some (.string a0_3) := (blk_cell BK206.out 3).trans rfl; have hcz8_4 : w7.cell? ⟨gb206, 4, none⟩ = some (.int .i64 a0_4) := (blk_cell BK206.out 4).trans rfl; have hfz8_0 := blk_frozen BK206.out 0; have hfz8_1 := blk_frozen BK206.out 1; have hfz8_2 := blk_frozen BK206.out 2; have hfz8_3 := blk_frozen BK206.out 3; have hfz8_4 := blk_frozen BK206.out 4; have p207 : 0 ≤ (a1 : Int) := of_decide_eq_true (by first | (with_reducible assumption) | assumption); have q207 : a1 < (l0_0.length : Int) := of_decide_eq_true (by first | (with_reducible assumption) | assumption); obtain ⟨ad207, e207, hx207_0, hx207_1, hx207_2, hx207_3⟩ := at_T38 HR0_0.out a1 p207 q207; cases e207; replace hx207_0 := (HB.out.cell (World.block_lt_of_cell? w _ hx207_0)).trans hx207_0; replace hx207_1 := (HB.out.cell (World.block_lt_of_cell? w _ hx207_1)).trans hx207_1; replace hx207_2 := (HB.out.cell (World.block_lt_of_cell? w _ hx207_2)).trans hx207_2; replace hx207_3 := (HB.out.cell (World.block_lt_of_cell? w _ hx207_3)).trans hx207_3; replace p207 := eq_true p207; replace q207 := eq_true q207; have p208 : 0 ≤ (a1 : Int) := of_decide_eq_true (by first | (with_reducible assumption) | assumption); have q208 : a1 < (l0_0.length : Int) := of_decide_eq_true (by first | (with_reducible assumption) | assumption); obtain ⟨ad208, e208, hx208_0, hx208_1, hx208_2, hx208_3⟩ := at_T38 HR0_0.out a1 p208 q208; obtain rfl : ad207 = ad208 := (by injection e208); replace hx208_0 := (HB.out.cell (World.block_lt_of_cell? w _ hx208_0)).trans hx208_0; replace hx208_1 := (HB.out.cell (World.block_lt_of_cell? w _ hx208_1)).trans hx208_1; replace hx208_2 := (HB.out.cell (World.block_lt_of_cell? w _ hx208_2)).trans hx208_2; replace hx208_3 := (HB.out.cell (World.block_lt_of_cell? w _ hx208_3)).trans hx208_3; replace p208 := eq_true p208; replace q208 := eq_true q208))
        go_ret
        exact ⟨by first | rfl | (simp [errW_none, errW_some] <;> rfl) | (simp [*, errW_none, errW_some] <;> rfl), by repeat (first | (with_reducible first | exact HB.out | apply below_alloc | apply pw_below_drewN | apply below_drew1 | refine below_set ?_ GE206.out) | exact HB.out)⟩
      · rw [if_neg c6] at H
        have c6b0 : (((rd_T38 l0_0 a1).f0) == 4) = false := beq_eq_false_iff_ne.mpr c6
        have c6b1 : (((rd_T38 l0_0 a1).f0) != 4) = true := bne_iff_ne.mpr c6
        obtain rfl := Option.some.inj H
        go_enter Try.func50, Try.ntmps50
        go_wp2_with (first | ((with_reducible refine gate_dst (N := 3) rfl ?_); refine box_event ?hg (N := 3) ?hd (cs := #[.slice A0_0 l0_0.length c0_0, .slice A0_1 l0_1.length c0_1, .int .i64 a0_2, .string a0_3, .int .i64 a0_4]) (t := 58) ?hr ?_; (case hd => rfl); (case hg => rfl); (case hr => first | (go_simp; done) | (go_simp; rfl)); intro gb206 hg w9 hbox hb; have n0_ := Aside0.mk (below_step (by repeat (first | (with_reducible first | exact HB.out | apply below_alloc | apply pw_below_drewN | apply below_drew1) | exact HB.out)) hb); have n1_ := Aside0.mk (hbox); have n2_ := Aside0.mk ((by rw [hg]; exact (below_size (by repeat (first | (with_reducible first | exact HB.out | apply below_alloc | apply pw_below_drewN | apply below_drew1) | exact HB.out))) : w.heap.size ≤ gb206)); have n3_ := Aside0.mk ((by rw [hg]; exact (below_size (by repeat (first | (with_reducible first | exact HB.out | apply below_alloc | apply pw_below_drewN | apply below_drew1) | exact HB.out))) : w.heap.size ≤ gb206)); clear HB; have HB := n0_; have BK206 := n1_; have GW206 := n2_; have GE206 := n3_; clear n0_ n1_ n2_ n3_; clear hb hbox hg; have hcz10_0 : w9.cell? ⟨gb206, 0, none⟩ = some (.slice A0_0 l0_0.length c0_0) := (blk_cell BK206.out 0).trans rfl; have hcz10_1 : w9.cell? ⟨gb206, 1, none⟩ = some (.slice A0_1 l0_1.length c0_1) := (blk_cell BK206.out 1).trans rfl; have hcz10_2 : w9.cell? ⟨gb206, 2, none⟩ = some (.int .i64 a0_2) := (blk_cell BK206.out 2).trans rfl; have hcz10_3 : w9.cell? ⟨gb206, 3, none⟩ = some (.string a0_3) := (blk_cell BK206.out 3).trans rfl; have hcz10_4 : w9.cell? ⟨gb206, 4, none⟩ = some (.int .i64 a0_4) := (blk_cell BK206.out 4).trans rfl; have hfz10_0 := blk_frozen BK206.out 0; have hfz10_1 := blk_frozen BK206.out 1; have hfz10_2 := blk_frozen BK206.out 2; have hfz10_3 := blk_frozen BK206.out 3; have hfz10_4 := blk_frozen BK206.out 4; have p207 : 0 ≤ (a1 : Int) := of_decide_eq_true (by first | (with_reducible assumption) | assumption); have q207 : a1 < (l0_0.length : Int) := of_decide_eq_true (by first | (with_reducible assumption) | assumption); obtain ⟨ad207, e207, hx207_0, hx207_1, hx207_2, hx207_3⟩ := at_T38 HR0_0.out a1 p207 q207; cases e207; replace hx207_0 := (HB.out.cell (World.block_lt_of_cell? w _ hx207_0)).trans hx207_0; replace hx207_1 := (HB.out.cell (World.block_lt_of_cell? w _ hx207_1)).trans hx207_1; replace hx207_2 := (HB.out.cell (World.block_lt_of_cell? w _ hx207_2)).trans hx207_2; replace hx207_3 := (HB.out.cell (World.block_lt_of_cell? w _ hx207_3)).trans hx207_3; replace p207 := eq_true p207; replace q207 := eq_true q207))
        go_ret
        exact ⟨by first | rfl | (simp [errW_none, errW_some] <;> rfl) | (simp [*, errW_none, errW_some] <;> rfl), by repeat (first | (with_reducible first | exact HB.out | apply below_alloc | apply pw_below_drewN | apply below_drew1 | refine below_set ?_ GE206.out) | exact HB.out)⟩
    · rw [if_neg c5] at H
      exact absurd H (by simp)
  · rw [if_neg c4] at H
    have c4b0 : decide (a1 < (l0_0.length : Int)) = false := decide_eq_false c4
    clear c4
    obtain rfl := Option.some.inj H
    go_enter Try.func50, Try.ntmps50
    go_wp2_with (first | ((with_reducible refine gate_dst (N := 3) rfl ?_); refine box_event ?hg (N := 3) ?hd (cs := #[.slice A0_0 l0_0.length c0_0, .slice A0_1 l0_1.length c0_1, .int .i64 a0_2, .string a0_3, .int .i64 a0_4]) (t := 58) ?hr ?_; (case hd => rfl); (case hg => rfl); (case hr => first | (go_simp; done) | (go_simp; rfl)); intro gb206 hg w11 hbox hb; have n0_ := Aside0.mk (below_step (by repeat (first | (with_reducible first | exact HB.out | apply below_alloc | apply pw_below_drewN | apply below_drew1) | exact HB.out)) hb); have n1_ := Aside0.mk (hbox); have n2_ := Aside0.mk ((by rw [hg]; exact (below_size (by repeat (first | (with_reducible first | exact HB.out | apply below_alloc | apply pw_below_drewN | apply below_drew1) | exact HB.out))) : w.heap.size ≤ gb206)); have n3_ := Aside0.mk ((by rw [hg]; exact (below_size (by repeat (first | (with_reducible first | exact HB.out | apply below_alloc | apply pw_below_drewN | apply below_drew1) | exact HB.out))) : w.heap.size ≤ gb206)); clear HB; have HB := n0_; have BK206 := n1_; have GW206 := n2_; have GE206 := n3_; clear n0_ n1_ n2_ n3_; clear hb hbox hg; have hcz12_0 : w11.cell? ⟨gb206, 0, none⟩ = some (.slice A0_0 l0_0.length c0_0) := (blk_cell BK206.out 0).trans rfl; have hcz12_1 : w11.cell? ⟨gb206, 1, none⟩ = some (.slice A0_1 l0_1.length c0_1) := (blk_cell BK206.out 1).trans rfl; have hcz12_2 : w11.cell? ⟨gb206, 2, none⟩ = some (.int .i64 a0_2) := (blk_cell BK206.out 2).trans rfl; have hcz12_3 : w11.cell? ⟨gb206, 3, none⟩ = some (.string a0_3) := (blk_cell BK206.out 3).trans rfl; have hcz12_4 : w11.cell? ⟨gb206, 4, none⟩ = some (.int .i64 a0_4) := (blk_cell BK206.out 4).trans rfl; have hfz12_0 := blk_frozen BK206.out 0; have hfz12_1 := blk_frozen BK206.out 1; have hfz12_2 := blk_frozen BK206.out 2; have hfz12_3 := blk_frozen BK206.out 3; have hfz12_4 := blk_frozen BK206.out 4))
    go_ret
    exact ⟨by first | rfl | (simp [errW_none, errW_some] <;> rfl) | (simp [*, errW_none, errW_some] <;> rfl), by repeat (first | (with_reducible first | exact HB.out | apply below_alloc | apply pw_below_drewN | apply below_drew1 | refine below_set ?_ GE206.out) | exact HB.out)⟩
end Go.Proofs.Ytpinoobgnnlccaa.A

/- What the reader's term and expression compute, place and all; the contracts as the printed texts ask for them; a call of a method value. -/
namespace Go.Proofs.Ytpinoobgnnlccaa.A
open Go Go.RowKit Go.Proofs.YtpinoobgnnlccaaW.PrintWords Go.Proofs.YtpinoobgnnlccaaW.PrintLast
set_option linter.unusedSimpArgs false
set_option linter.unusedVariables false
section
variable {P : Program} {ops : Array Oper} {Q : Exit → Act → World → Prop}
/-- A call of a function value that was made with its first arguments. -/
theorem goesV_ {rest : List Oper} {oi : Oper} {a : Act} {w : World} (N : Option Tmp) (hd : oi.dst = N) (hg : oi.guard = none) {f : FuncId} {fn : Func} {x : Operand} {xs : Array Operand} {ts : Array TypeId} {first : Array Value} (hf : P.funcs[f]? = some fn) (hname : (fn.name == "runtime.NumGoroutine") = false) (hb : fn.body.isSome = true) (args full : Array Value)
    (hop : oi.op = .call { callee := .value x, args := xs, argTypes := ts }) (hx : a.eval x = .func (.func f) first #[]) (hargs : xs.map a.eval = args) (hfull : first ++ args = full)
    (h : Calls P f full w fun e w' => ∃ v, e = .returned v ∧ wpList P ops Q rest (a.put N v) w') : wpList P ops Q (oi :: rest) a w := by
  refine wpList_plain hg fun K hK => ?_
  have he := enters_ hf hname hb full w
  have hrun : (execOp a.eval oi).run P w = .ok (.enter f full) w := by
    unfold execOp
    simp [hop, resolve, Deferred.ofValue, invoke, hx, hargs, hfull, he]
  unfold Oper.wp
  rw [hrun, Oper.upon_enter]
  refine h.mono fun e w'' hh => ?_
  obtain ⟨v, rfl, hk⟩ := hh
  subst hd
  exact hK _ _ hk
end
theorem op_none {o : ByteArray} {a : VV} (h : isOp o = false) : opF o a = .nilFunc := by
  unfold isOp at h; simp only [Bool.or_eq_false_iff] at h
  obtain ⟨⟨⟨⟨⟨h1, h2⟩, h3⟩, h4⟩, h5⟩, h6⟩ := h
  unfold opF; simp [h1, h2, h3, h4, h5, h6]
theorem op_some {o : ByteArray} {a : VV} (h : isOp o = true) : ∃ (k : Nat) (fn : Func), opF o a = .func (.func k) #[vv a] #[] ∧ Try.prog.funcs[k]? = some fn ∧ (fn.name == "runtime.NumGoroutine") = false ∧ fn.body.isSome = true ∧
    ∀ b w, Calls Try.prog k #[vv a, vv b] w fun e w' => e = .returned (vr (opS o a b)) ∧ Below w.heap.size w w' := by
  cases h1 : sIs o [43]
  case true => exact ⟨39, _, by unfold opF; rw [if_pos h1], Try.func39, by kernel_rfl, rfl, fun b w => by rw [show opS o a b = addS a b from by unfold opS; rw [if_pos h1]]; exact add_v a b w⟩
  cases h2 : sIs o [45]
  case true => exact ⟨40, _, by unfold opF; simp [h1, h2], Try.func40, by kernel_rfl, rfl, fun b w => by rw [show opS o a b = subS a b from by unfold opS; simp [h1, h2]]; exact sub_v a b w⟩
  cases h3 : sIs o [42]
  case true => exact ⟨41, _, by unfold opF; simp [h1, h2, h3], Try.func41, by kernel_rfl, rfl, fun b w => by rw [show opS o a b = numS mulF a b from by unfold opS; simp [h1, h2, h3]]; exact mul_v a b w⟩
  cases h4 : sIs o [47]
  case true => exact ⟨42, _, by unfold opF; simp [h1, h2, h3, h4], Try.func42, by kernel_rfl, rfl, fun b w => by rw [show opS o a b = divS a b from by unfold opS; simp [h1, h2, h3, h4]]; exact div_v a b w⟩
  cases h5 : sIs o [38]
  case true => exact ⟨43, _, by unfold opF; simp [h1, h2, h3, h4, h5], Try.func43, by kernel_rfl, rfl, fun b w => by rw [show opS o a b = numS andF a b from by unfold opS; simp [h1, h2, h3, h4, h5]]; exact and_v a b w⟩
  cases h6 : sIs o [124]
  case true => exact ⟨44, _, by unfold opF; simp [h1, h2, h3, h4, h5, h6], Try.func44, by kernel_rfl, rfl, fun b w => by rw [show opS o a b = numS orF a b from by unfold opS; simp [h1, h2, h3, h4, h5]]; exact or_v a b w⟩
  unfold isOp at h; rw [h1, h2, h3, h4, h5, h6] at h; cases h
theorem op_c {o : ByteArray} {c : Int} {s : ByteArray} {n : Int} {F : Value} {w : World} (hF : opF o (c, s, n) = F) : Calls Try.prog 31 #[.agg #[.int .i64 c, .string s, .int .i64 n], .string o] w fun e w' => e = .returned F ∧ Below w.heap.size w w' := by
  subst hF; exact op_v o (c, s, n) w
def opnF (a0_0 : Int) (a0_1 : ByteArray) (a0_2 : Int) (a1 : ByteArray) : Option ByteArray := some a1
def isnF (o : ByteArray) : Option Bool := some (!isOp o)
def opsF (o : ByteArray) (a1_0 : Int) (a1_1 : ByteArray) (a1_2 : Int) (a2_0 : Int) (a2_1 : ByteArray) (a2_2 : Int) : Option (Int × ByteArray × Int × Int) :=
  some ((opS o (a1_0, a1_1, a1_2) (a2_0, a2_1, a2_2)).1.1, (opS o (a1_0, a1_1, a1_2) (a2_0, a2_1, a2_2)).1.2.1, (opS o (a1_0, a1_1, a1_2) (a2_0, a2_1, a2_2)).1.2.2, (opS o (a1_0, a1_1, a1_2) (a2_0, a2_1, a2_2)).2)
theorem opk_c {o o' : ByteArray} {k : Nat} {c d : Int} {s t : ByteArray} {n m : Int} {r1 r3 r4 : Int} {r2 : ByteArray} {w : World} (HC : ∀ b w, Calls Try.prog k #[vv (c, s, n), vv b] w fun e w' => e = .returned (vr (opS o (c, s, n) b)) ∧ Below w.heap.size w w') (he : opnF c s n o = some o') (h : opsF o' c s n d t m = some (r1, r2, r3, r4)) :
    Calls Try.prog k #[.agg #[.int .i64 c, .string s, .int .i64 n], .agg #[.int .i64 d, .string t, .int .i64 m]] w fun e w' => e = .returned (.tuple #[.agg #[.int .i64 r1, .string r2, .int .i64 r3], .int .i64 r4]) ∧ Below w.heap.size w w' := by
  obtain rfl : o = o' := Option.some.inj he
  unfold opsF at h
  simp only [Option.some.injEq, Prod.mk.injEq] at h
  obtain ⟨rfl, rfl, rfl, rfl⟩ := h
  exact HC (d, t, m) w
section
variable (L : List S38) (S : List S44) (h : VV)
def atomX (i : Nat) : RR := if L.length ≤ i then (v0, i, 3) else ((atomT S h (rd_T38 L i)).1, i + 1, (atomT S h (rd_T38 L i)).2)
def loopX (tm : Nat → RR) : Nat → VV → Nat → RR
  | 0, v, i => (v, i, 0)
  | k + 1, v, i =>
    if isOp (symS L i) = true then
      if (tm (i + 1)).2.2 = 0 then
        if (opS (symS L i) v (tm (i + 1)).1).2 = 0 then loopX tm k (opS (symS L i) v (tm (i + 1)).1).1 (tm (i + 1)).2.1
        else (v0, (tm (i + 1)).2.1, (opS (symS L i) v (tm (i + 1)).1).2)
      else (v0, (tm (i + 1)).2.1, (tm (i + 1)).2.2)
    else (v, i, 0)
def exprX (tm : Nat → RR) (i : Nat) : RR := if (tm i).2.2 = 0 then loopX L tm L.length (tm i).1 (tm i).2.1 else (v0, (tm i).2.1, (tm i).2.2)
def negX (r : RR) : RR := if r.2.2 = 0 then ((subS v0 r.1).1, r.2.1, (subS v0 r.1).2) else (v0, r.2.1, r.2.2)
def parX (r : RR) : RR := if r.2.2 = 0 then (if sIs (symS L r.2.1) [41] = true then (r.1, r.2.1 + 1, 0) else (v0, r.2.1, 3)) else (v0, r.2.1, r.2.2)
def termX : Nat → Nat → RR
  | 0, i => if sIs (symS L i) [45] = true then negX (v0, i, 7) else if sIs (symS L i) [40] = true then parX L (v0, i, 7) else atomX L S h i
  | d + 1, i => if sIs (symS L i) [45] = true then negX (termX d (i + 1)) else if sIs (symS L i) [40] = true then parX L (exprX L (termX d) (i + 1)) else atomX L S h i
end
abbrev okX (D : Int) (L : List S38) (S : List S44) (s : ByteArray) (x1 x2 : Int) : Prop := D ≤ x2 ∧ fits L = true ∧ S.length ≤ 1000 ∧ s.size ≤ 1000 ∧ 0 ≤ x1 ∧ x1 ≤ L.length ∧ 0 ≤ x2 ∧ x2 ≤ 16
def outX (r : RR) (h : VV) : Option (Int × ByteArray × Int × Int × Int × Int × ByteArray × Int) := some (r.1.1, r.1.2.1, r.1.2.2, r.2.2, (r.2.1 : Int), h.1, h.2.1, h.2.2)
def rdT (D : Int) (s0_0 : List (S38)) (s0_1 : Int) (s0_2 : List (S44)) (s0_3 : Int) (s0_4 : ByteArray) (s0_5 : Int) (a1 : Int) : Option (Int × ByteArray × Int × Int × Int × Int × ByteArray × Int) :=
  if okX D s0_0 s0_2 s0_4 s0_1 a1 then outX (termX s0_0 s0_2 (s0_3, s0_4, s0_5) (16 - a1).toNat s0_1.toNat) (s0_3, s0_4, s0_5) else none
def rdE (D : Int) (s0_0 : List (S38)) (s0_1 : Int) (s0_2 : List (S44)) (s0_3 : Int) (s0_4 : ByteArray) (s0_5 : Int) (a1 : Int) : Option (Int × ByteArray × Int × Int × Int × Int × ByteArray × Int) :=
  if okX D s0_0 s0_2 s0_4 s0_1 a1 then outX (exprX s0_0 (termX s0_0 s0_2 (s0_3, s0_4, s0_5) (16 - a1).toNat) s0_1.toNat) (s0_3, s0_4, s0_5) else none
/-- what nested gives: the depth's limit, else f behind the sign -/
def nestF (f : List S38 → Int → List S44 → Int → ByteArray → Int → Int → Option (Int × ByteArray × Int × Int × Int × Int × ByteArray × Int)) (s0_0 : List (S38)) (s0_1 : Int) (s0_2 : List (S44)) (s0_3 : Int) (s0_4 : ByteArray) (s0_5 : Int) (a1 : Int) : Option (Int × ByteArray × Int × Int × Int × Int × ByteArray × Int) :=
  if 16 ≤ a1 then some (0, ⟨#[]⟩, 0, 7, s0_1, s0_3, s0_4, s0_5) else f s0_0 (wrap64 (s0_1 + 1)) s0_2 s0_3 s0_4 s0_5 (wrap64 (a1 + 1))
abbrev RdC (n : Nat) (F : List S38 → Int → List S44 → Int → ByteArray → Int → Int → Option (Int × ByteArray × Int × Int × Int × Int × ByteArray × Int)) : Prop :=
  ∀ (g : Nat) (s0_0 : List (S38)) (s0_1 : Int) (s0_2 : List (S44)) (s0_3 : Int) (s0_4 : ByteArray) (s0_5 : Int) (a1 : Int) (r1 : Int) (r2 : ByteArray) (r3 : Int) (r4 : Int) (r5 : Int) (r6 : Int) (r7 : ByteArray) (r8 : Int) (w0 w : World) (hI : IsS53 w0 w g s0_0 s0_1 s0_2 s0_3 s0_4 s0_5) (hB : Below w0.heap.size w0 w) (h : F s0_0 s0_1 s0_2 s0_3 s0_4 s0_5 a1 = some (r1, r2, r3, r4, r5, r6, r7, r8)),
    Calls Try.prog n #[.pointer (some ⟨g, 0, none⟩), .int .i64 a1] w fun e w' => e = .returned (.tuple #[.agg #[.int .i64 r1, .string r2, .int .i64 r3], .int .i64 r4]) ∧ IsS53 w0 w' g s0_0 r5 s0_2 r6 r7 r8 ∧ Below w0.heap.size w0 w' ∧ KeepBut w w' g none
abbrev NestC (n : Nat) (F : List S38 → Int → List S44 → Int → ByteArray → Int → Int → Option (Int × ByteArray × Int × Int × Int × Int × ByteArray × Int)) : Prop :=
  ∀ (g : Nat) (s0_0 : List (S38)) (s0_1 : Int) (s0_2 : List (S44)) (s0_3 : Int) (s0_4 : ByteArray) (s0_5 : Int) (a1 : Int) (r1 : Int) (r2 : ByteArray) (r3 : Int) (r4 : Int) (r5 : Int) (r6 : Int) (r7 : ByteArray) (r8 : Int) (w0 w : World) (hI : IsS53 w0 w g s0_0 s0_1 s0_2 s0_3 s0_4 s0_5) (hB : Below w0.heap.size w0 w) (h : nestF F s0_0 s0_1 s0_2 s0_3 s0_4 s0_5 a1 = some (r1, r2, r3, r4, r5, r6, r7, r8)),
    Calls Try.prog 47 #[.pointer (some ⟨g, 0, none⟩), .int .i64 a1, .func (.func n) #[.pointer (some ⟨g, 0, none⟩)] #[]] w fun e w' => e = .returned (.tuple #[.agg #[.int .i64 r1, .string r2, .int .i64 r3], .int .i64 r4]) ∧ IsS53 w0 w' g s0_0 r5 s0_2 r6 r7 r8 ∧ Below w0.heap.size w0 w' ∧ KeepBut w w' g none
end Go.Proofs.Ytpinoobgnnlccaa.A

-- Written by a program of this session (mp.py) over the kit's print.py, with proofs by hand for what the print does not take.
namespace Go.Proofs.Ytpinoobgnnlccaa.A
open Go.RowKit Go.Proofs.YtpinoobgnnlccaaW.PrintWords Go.Proofs.YtpinoobgnnlccaaW.PrintLast Go.Proofs.YtpinoobgnnlccaaW.PrintMore
attribute [local go_sem] max2_int min2_int max_two min_two max_three min_three max_four min_four   -- for this text's walks alone
set_option linter.unusedVariables false
set_option linter.unusedSimpArgs false
/-! ### asmexpr_Find: function 14 -/
def asmexpr_Find.l0 : Nat → ByteArray → List (S44) → Int → Int → Option (Int)
  | 0, _, _, _, _ => none
  | k + 1, x1, x7, x8, x9 => if x9 < x8 then (if 0 ≤ x9 then (if x9 < (x7.length : Int) then (if ((rd_T44 x7 x9).f0).toList = x1.toList then (some x9) else (asmexpr_Find.l0 k x1 x7 x8 (wrap64 (x9 + 1)))) else (none)) else (none)) else (some (-1))
def asmexpr_Find.f (k : Nat) (l0 : List (S44)) (a1 : ByteArray) : Option (Int) := asmexpr_Find.l0 k a1 l0 (l0.length : Int) 0
theorem asmexpr_Find.mono_l : ∀ k, (∀ y0 y1 y2 y3, LeO (asmexpr_Find.l0 k y0 y1 y2 y3) (asmexpr_Find.l0 (k + 1) y0 y1 y2 y3))
  | 0 => fun _ _ _ _ r h => by simp [asmexpr_Find.l0] at h
  | k + 1 => by
    have ih0 := asmexpr_Find.mono_l k
    · intro y0 y1 y2 y3
      unfold asmexpr_Find.l0
      repeat' first
      | (with_reducible exact ih0 _ _ _ _)
      | (with_reducible exact LeO.refl _)
      | (with_reducible exact LeO.none _)
      | (with_reducible refine LeO.ite ?_ ?_)
      | (with_reducible refine LeO.bind ?_ (fun _ => ?_))
      | exact ih0 _ _ _ _
      | exact LeO.none _
      | refine LeO.ite ?_ ?_
      | refine LeO.bind ?_ (fun _ => ?_)
theorem asmexpr_Find.mono : ∀ a0 a1 k, LeO (asmexpr_Find.f k a0 a1) (asmexpr_Find.f (k + 1) a0 a1) := by
  intro a0 a1 k
  have ih0 := asmexpr_Find.mono_l k
  unfold asmexpr_Find.f
  repeat' first
      | (with_reducible exact ih0 _ _ _ _)
      | (with_reducible exact LeO.refl _)
      | (with_reducible exact LeO.none _)
      | (with_reducible refine LeO.ite ?_ ?_)
      | (with_reducible refine LeO.bind ?_ (fun _ => ?_))
      | exact ih0 _ _ _ _
      | exact LeO.none _
      | refine LeO.ite ?_ ?_
      | refine LeO.bind ?_ (fun _ => ?_)
set_option maxHeartbeats 8000000 in
set_option maxRecDepth 100000 in
theorem asmexpr_Find.calls (k : Nat) (A0 : Option Addr) (c0 : Nat) (l0 : List (S44)) (a1 : ByteArray) (r : Int) (w : World) (hr0 : Kd.C k44 w A0 l0.length l0) (hc0 : l0.length ≤ c0) (h : asmexpr_Find.f k l0 a1 = some r) :
    Calls Try.prog 14 #[.slice A0 l0.length c0, .string a1] w fun e w' => e = .returned (.int .i64 r) ∧ Below w.heap.size w w' := by
  have hu44 := Try.underlying44
  have HR0 := Aside0.mk hr0
  have HC0 := Aside0.mk hc0
  clear hr0 hc0
  have HB := Aside0.mk (Below.refl w.heap.size w)
  have H : (asmexpr_Find.l0 k a1 l0 (l0.length : Int) 0) = some r := h
  clear h
  have H' := Aside0.mk H
  clear H
  go_enter Try.func14, Try.ntmps14
  go_wp2
  go_loopg [9] k (fun kq v9 w' => ∃ (x9_1 : Int), v9 = .int .i64 x9_1 ∧ Aside0 (asmexpr_Find.l0 kq a1 l0 (l0.length : Int) x9_1 = some r) ∧ Aside0 (kq ≤ k) ∧ Aside0 (Below w.heap.size w w'))
  case atStart => exact ⟨(0), (by first | rfl | (simp; done) | (simp [*]; done)), H', ⟨Nat.le_refl _⟩, ⟨by repeat (first | (with_reducible first | exact HB.out | apply below_alloc | apply pw_below_drewN | apply below_drew1) | exact HB.out)⟩⟩
  case round =>
    clear H'
    try clear c1
    try clear p2
    obtain ⟨x9_1, rfl, HA, HK1, HB⟩ := hrel
    cases gk with
    | zero => exact absurd HA.out (by simp [asmexpr_Find.l0])
    | succ k1 =>
      have H := HA.out
      clear HA
      simp only [asmexpr_Find.l0] at H
      by_cases c3 : x9_1 < (l0.length : Int)
      · rw [if_pos c3] at H
        have c3b0 : decide (x9_1 < (l0.length : Int)) = true := decide_eq_true c3
        clear c3
        by_cases c4 : 0 ≤ x9_1
        · rw [if_pos c4] at H
          have c4b0 : decide (0 ≤ x9_1) = true := decide_eq_true c4
          clear c4
          by_cases c5 : x9_1 < (l0.length : Int)
          · rw [if_pos c5] at H
            have c5b0 : decide (x9_1 < (l0.length : Int)) = true := decide_eq_true c5
            clear c5
            by_cases c6 : ((rd_T44 l0 x9_1).f0).toList = a1.toList
            · rw [if_pos c6] at H
              have c6b0 : (((rd_T44 l0 x9_1).f0).toList == a1.toList) = true := beq_iff_eq.mpr c6
              have c6b1 : (((rd_T44 l0 x9_1).f0).toList != a1.toList) = false := bne_eq_false_iff_eq.mpr c6
              clear c6
              obtain rfl := Option.some.inj H
              have p101 : 0 ≤ (x9_1 : Int) := of_decide_eq_true (by first | (with_reducible assumption) | assumption)
              have q101 : x9_1 < (l0.length : Int) := of_decide_eq_true (by first | (with_reducible assumption) | assumption)
              obtain ⟨ad101, e101, hx101_0, hx101_1, hx101_2, hx101_3⟩ := at_T44 HR0.out x9_1 p101 q101
              cases e101
              replace hx101_0 := (HB.out.cell (World.block_lt_of_cell? w _ hx101_0)).trans hx101_0
              replace hx101_1 := (HB.out.cell (World.block_lt_of_cell? w _ hx101_1)).trans hx101_1
              replace hx101_2 := (HB.out.cell (World.block_lt_of_cell? w _ hx101_2)).trans hx101_2
              replace hx101_3 := (HB.out.cell (World.block_lt_of_cell? w _ hx101_3)).trans hx101_3
              replace p101 := eq_true p101
              replace q101 := eq_true q101
              go_wp2_with (first | ((with_reducible refine gate_dst (N := 6) rfl ?_); refine box_event ?hg (N := 6) ?hd (cs := #[.string (⟨#[]⟩ : ByteArray), .int .i64 0, .int .i64 0, .bool false]) (t := 44) ?hr ?_; (case hd => rfl); (case hg => rfl); (case hr => first | (go_simp; done) | (go_simp; rfl)); intro gb102 hg w7 hbox hb; have n0_ := Aside0.mk (below_step (by repeat (first | (with_reducible first | exact HB.out | apply below_alloc | apply pw_below_drewN | apply below_drew1) | exact HB.out)) hb); have n1_ := Aside0.mk (hbox); have n2_ := Aside0.mk ((by rw [hg]; exact (below_size (by repeat (first | (with_reducible first | exact HB.out | apply below_alloc | apply pw_below_drewN | apply below_drew1) | exact HB.out))) : w.heap.size ≤ gb102)); have n3_ := Aside0.mk ((by rw [hg]; exact (below_size (by repeat (first | (with_reducible first | exact HB.out | apply below_alloc | apply pw_below_drewN | apply below_drew1) | exact HB.out))) : w.heap.size ≤ gb102)); clear HB; have HB := n0_; have BK102 := n1_; have GW102 := n2_; have GE102 := n3_; clear n0_ n1_ n2_ n3_; clear hb hbox hg; have hcz8_0 : w7.cell? ⟨gb102, 0, none⟩ = some (.string (⟨#[]⟩ : ByteArray)) := (blk_cell BK102.out 0).trans rfl; have hcz8_1 : w7.cell? ⟨gb102, 1, none⟩ = some (.int .i64 0) := (blk_cell BK102.out 1).trans rfl; have hcz8_2 : w7.cell? ⟨gb102, 2, none⟩ = some (.int .i64 0) := (blk_cell BK102.out 2).trans rfl; have hcz8_3 : w7.cell? ⟨gb102, 3, none⟩ = some (.bool false) := (blk_cell BK102.out 3).trans rfl; have hfz8_0 := blk_frozen BK102.out 0; have hfz8_1 := blk_frozen BK102.out 1; have hfz8_2 := blk_frozen BK102.out 2; have hfz8_3 := blk_frozen BK102.out 3))
              go_ret
              exact ⟨by first | rfl | (simp [errW_none, errW_some] <;> rfl) | (simp [*, errW_none, errW_some] <;> rfl), by repeat (first | (with_reducible first | exact HB.out | apply below_alloc | apply pw_below_drewN | apply below_drew1 | refine below_set ?_ GE102.out) | exact HB.out)⟩
            · rw [if_neg c6] at H
              have c6b0 : (((rd_T44 l0 x9_1).f0).toList == a1.toList) = false := beq_eq_false_iff_ne.mpr c6
              have c6b1 : (((rd_T44 l0 x9_1).f0).toList != a1.toList) = true := bne_iff_ne.mpr c6
              have H' := Aside0.mk H
              clear H
              have p101 : 0 ≤ (x9_1 : Int) := of_decide_eq_true (by first | (with_reducible assumption) | assumption)
              have q101 : x9_1 < (l0.length : Int) := of_decide_eq_true (by first | (with_reducible assumption) | assumption)
              obtain ⟨ad101, e101, hx101_0, hx101_1, hx101_2, hx101_3⟩ := at_T44 HR0.out x9_1 p101 q101
              cases e101
              replace hx101_0 := (HB.out.cell (World.block_lt_of_cell? w _ hx101_0)).trans hx101_0
              replace hx101_1 := (HB.out.cell (World.block_lt_of_cell? w _ hx101_1)).trans hx101_1
              replace hx101_2 := (HB.out.cell (World.block_lt_of_cell? w _ hx101_2)).trans hx101_2
              replace hx101_3 := (HB.out.cell (World.block_lt_of_cell? w _ hx101_3)).trans hx101_3
              replace p101 := eq_true p101
              replace q101 := eq_true q101
              go_wp2_with (first | ((with_reducible refine gate_dst (N := 6) rfl ?_); refine box_event ?hg (N := 6) ?hd (cs := #[.string (⟨#[]⟩ : ByteArray), .int .i64 0, .int .i64 0, .bool false]) (t := 44) ?hr ?_; (case hd => rfl); (case hg => rfl); (case hr => first | (go_simp; done) | (go_simp; rfl)); intro gb102 hg w9 hbox hb; have n0_ := Aside0.mk (below_step (by repeat (first | (with_reducible first | exact HB.out | apply below_alloc | apply pw_below_drewN | apply below_drew1) | exact HB.out)) hb); have n1_ := Aside0.mk (hbox); have n2_ := Aside0.mk ((by rw [hg]; exact (below_size (by repeat (first | (with_reducible first | exact HB.out | apply below_alloc | apply pw_below_drewN | apply below_drew1) | exact HB.out))) : w.heap.size ≤ gb102)); have n3_ := Aside0.mk ((by rw [hg]; exact (below_size (by repeat (first | (with_reducible first | exact HB.out | apply below_alloc | apply pw_below_drewN | apply below_drew1) | exact HB.out))) : w.heap.size ≤ gb102)); clear HB; have HB := n0_; have BK102 := n1_; have GW102 := n2_; have GE102 := n3_; clear n0_ n1_ n2_ n3_; clear hb hbox hg; have hcz10_0 : w9.cell? ⟨gb102, 0, none⟩ = some (.string (⟨#[]⟩ : ByteArray)) := (blk_cell BK102.out 0).trans rfl; have hcz10_1 : w9.cell? ⟨gb102, 1, none⟩ = some (.int .i64 0) := (blk_cell BK102.out 1).trans rfl; have hcz10_2 : w9.cell? ⟨gb102, 2, none⟩ = some (.int .i64 0) := (blk_cell BK102.out 2).trans rfl; have hcz10_3 : w9.cell? ⟨gb102, 3, none⟩ = some (.bool false) := (blk_cell BK102.out 3).trans rfl; have hfz10_0 := blk_frozen BK102.out 0; have hfz10_1 := blk_frozen BK102.out 1; have hfz10_2 := blk_frozen BK102.out 2; have hfz10_3 := blk_frozen BK102.out 3))
              go_roundg k1
              case measure => have := HK1.out; omega
              case rel => exact ⟨(wrap64 (x9_1 + 1)), (by first | rfl | (simp; done) | (simp [*]; done)), H', ⟨by have := HK1.out; omega⟩, ⟨by repeat (first | (with_reducible first | exact HB.out | apply below_alloc | apply pw_below_drewN | apply below_drew1 | refine below_set ?_ GE102.out) | exact HB.out)⟩⟩
          · rw [if_neg c5] at H
            exact absurd H (by simp)
        · rw [if_neg c4] at H
          exact absurd H (by simp)
      · rw [if_neg c3] at H
        have c3b0 : decide (x9_1 < (l0.length : Int)) = false := decide_eq_false c3
        clear c3
        obtain rfl := Option.some.inj H
        go_wp2
        go_ret
        exact ⟨by first | rfl | (simp [errW_none, errW_some] <;> rfl) | (simp [*, errW_none, errW_some] <;> rfl), by repeat (first | (with_reducible first | exact HB.out | apply below_alloc | apply pw_below_drewN | apply below_drew1) | exact HB.out)⟩
/-! ### asmlex_letter: function 59 -/
def asmlex_letter.f (a0 : Int) : Option (Bool) := if a0 ≥ 97 then (if a0 ≤ 122 then (some true) else (if a0 ≥ 65 then (some (decide (a0 ≤ 90))) else (some false))) else (if a0 ≥ 65 then (some (decide (a0 ≤ 90))) else (some false))
set_option maxHeartbeats 8000000 in
set_option maxRecDepth 100000 in
theorem asmlex_letter.calls (a0 : Int) (r : Bool) (w : World) (h : asmlex_letter.f a0 = some r) :
    Calls Try.prog 59 #[.int .u8 a0] w fun e w' => e = .returned (.bool r) ∧ Drawn0 w w' := by
  have H : (if a0 ≥ 97 then (if a0 ≤ 122 then (some true) else (if a0 ≥ 65 then (some (decide (a0 ≤ 90))) else (some false))) else (if a0 ≥ 65 then (some (decide (a0 ≤ 90))) else (some false))) = some r := h
  clear h
  by_cases c2 : a0 ≥ 97
  · rw [if_pos c2] at H
    have c2b0 : decide (97 ≤ a0) = true := decide_eq_true c2
    clear c2
    by_cases c3 : a0 ≤ 122
    · rw [if_pos c3] at H
      have c3b0 : decide (a0 ≤ 122) = true := decide_eq_true c3
      clear c3
      obtain rfl := Option.some.inj H
      go_enter Try.func59, Try.ntmps59
      go_wp2
      go_ret
      exact ⟨by first | rfl | (simp; done) | (simp [*]; done), by repeat (first | exact Drawn0.refl _ | apply Drawn0.step)⟩
    · rw [if_neg c3] at H
      have c3b0 : decide (a0 ≤ 122) = false := decide_eq_false c3
      clear c3
      by_cases c4 : a0 ≥ 65
      · rw [if_pos c4] at H
        have c4b0 : decide (65 ≤ a0) = true := decide_eq_true c4
        clear c4
        obtain rfl := Option.some.inj H
        go_enter Try.func59, Try.ntmps59
        go_wp2
        go_ret
        exact ⟨by first | rfl | (simp; done) | (simp [*]; done), by repeat (first | exact Drawn0.refl _ | apply Drawn0.step)⟩
      · rw [if_neg c4] at H
        have c4b0 : decide (65 ≤ a0) = false := decide_eq_false c4
        clear c4
        obtain rfl := Option.some.inj H
        go_enter Try.func59, Try.ntmps59
        go_wp2
        go_ret
        exact ⟨by first | rfl | (simp; done) | (simp [*]; done), by repeat (first | exact Drawn0.refl _ | apply Drawn0.step)⟩
  · rw [if_neg c2] at H
    have c2b0 : decide (97 ≤ a0) = false := decide_eq_false c2
    clear c2
    by_cases c5 : a0 ≥ 65
    · rw [if_pos c5] at H
      have c5b0 : decide (65 ≤ a0) = true := decide_eq_true c5
      clear c5
      obtain rfl := Option.some.inj H
      go_enter Try.func59, Try.ntmps59
      go_wp2
      go_ret
      exact ⟨by first | rfl | (simp; done) | (simp [*]; done), by repeat (first | exact Drawn0.refl _ | apply Drawn0.step)⟩
    · rw [if_neg c5] at H
      have c5b0 : decide (65 ≤ a0) = false := decide_eq_false c5
      clear c5
      obtain rfl := Option.some.inj H
      go_enter Try.func59, Try.ntmps59
      go_wp2
      go_ret
      exact ⟨by first | rfl | (simp; done) | (simp [*]; done), by repeat (first | exact Drawn0.refl _ | apply Drawn0.step)⟩
/-! ### asmlex_digit: function 60 -/
def asmlex_digit.f (a0 : Int) : Option (Bool) := if a0 ≥ 48 then (some (decide (a0 ≤ 57))) else (some false)
set_option maxHeartbeats 8000000 in
set_option maxRecDepth 100000 in
theorem asmlex_digit.calls (a0 : Int) (r : Bool) (w : World) (h : asmlex_digit.f a0 = some r) :
    Calls Try.prog 60 #[.int .u8 a0] w fun e w' => e = .returned (.bool r) ∧ Drawn0 w w' := by
  have H : (if a0 ≥ 48 then (some (decide (a0 ≤ 57))) else (some false)) = some r := h
  clear h
  by_cases c2 : a0 ≥ 48
  · rw [if_pos c2] at H
    have c2b0 : decide (48 ≤ a0) = true := decide_eq_true c2
    clear c2
    obtain rfl := Option.some.inj H
    go_enter Try.func60, Try.ntmps60
    go_wp2
    go_ret
    exact ⟨by first | rfl | (simp; done) | (simp [*]; done), by repeat (first | exact Drawn0.refl _ | apply Drawn0.step)⟩
  · rw [if_neg c2] at H
    have c2b0 : decide (48 ≤ a0) = false := decide_eq_false c2
    clear c2
    obtain rfl := Option.some.inj H
    go_enter Try.func60, Try.ntmps60
    go_wp2
    go_ret
    exact ⟨by first | rfl | (simp; done) | (simp [*]; done), by repeat (first | exact Drawn0.refl _ | apply Drawn0.step)⟩
end Go.Proofs.Ytpinoobgnnlccaa.A

-- Written by a program of this session (mp.py) over the kit's print.py, with proofs by hand for what the print does not take.
namespace Go.Proofs.Ytpinoobgnnlccaa.A
open Go.RowKit Go.Proofs.YtpinoobgnnlccaaW.PrintWords Go.Proofs.YtpinoobgnnlccaaW.PrintLast Go.Proofs.YtpinoobgnnlccaaW.PrintMore
attribute [local go_sem] max2_int min2_int max_two min_two max_three min_three max_four min_four   -- for this text's walks alone
set_option linter.unusedVariables false
set_option linter.unusedSimpArgs false
/-! ### asmlex_nameByte: function 45 -/
def asmlex_nameByte.f (a0 : Int) (a1 : Bool) : Option (Bool) := (asmlex_letter.f a0).bind fun t103 => (if t103 = true then (some true) else (if a0 = 95 then (some true) else (if a0 = 46 then (some true) else (if a0 = 36 then (some true) else (if a1 = true then (some false) else ((asmlex_digit.f a0).bind fun t104 => (some t104)))))))
set_option maxHeartbeats 8000000 in
set_option maxRecDepth 100000 in
theorem asmlex_nameByte.calls (a0 : Int) (a1 : Bool) (r : Bool) (w : World) (h : asmlex_nameByte.f a0 a1 = some r) :
    Calls Try.prog 45 #[.int .u8 a0, .bool a1] w fun e w' => e = .returned (.bool r) ∧ Drawn0 w w' := by
  have H : ((asmlex_letter.f a0).bind fun t103 => (if t103 = true then (some true) else (if a0 = 95 then (some true) else (if a0 = 46 then (some true) else (if a0 = 36 then (some true) else (if a1 = true then (some false) else ((asmlex_digit.f a0).bind fun t104 => (some t104)))))))) = some r := h
  clear h
  replace H := Option.bind_eq_some_iff.mp H
  obtain ⟨t103, A30, H⟩ := H
  replace H : (if t103 = true then (some true) else (if a0 = 95 then (some true) else (if a0 = 46 then (some true) else (if a0 = 36 then (some true) else (if a1 = true then (some false) else ((asmlex_digit.f a0).bind fun t104 => (some t104))))))) = some r := H
  have A3 := Aside0.mk A30
  clear A30
  by_cases c4 : t103 = true
  · subst c4
    have H1 : (some true) = some r := by rw [if_pos rfl] at H; exact H
    clear H
    have H := H1
    clear H1
    obtain rfl := Option.some.inj H
    go_enter Try.func45, Try.ntmps45
    go_wp2_with (first | ((with_reducible refine gate_callee (f := 59) rfl ?_); refine goesL_ (some 6) rfl rfl Try.func59 (by kernel_rfl) rfl #[.int .u8 a0] rfl (by (try simp only [List.map_toArray, List.map_cons, List.map_nil]); first | done | rfl | (simp only [List.length_drop, List.length_take]; rfl)) ?_; (with_reducible refine (asmlex_letter.calls a0 true _ A3.out).mono ?_); rintro e w' ⟨rfl, ⟨nd, rfl⟩⟩; refine ⟨_, rfl, ?_⟩))
    go_ret
    exact ⟨by first | rfl | (simp; done) | (simp [*]; done), by repeat (first | exact Drawn0.refl _ | apply Drawn0.step)⟩
  · replace c4 := Bool.eq_false_iff.mpr c4
    subst c4
    have H1 : (if a0 = 95 then (some true) else (if a0 = 46 then (some true) else (if a0 = 36 then (some true) else (if a1 = true then (some false) else ((asmlex_digit.f a0).bind fun t104 => (some t104)))))) = some r := by rw [if_neg (show ¬ (false = true) by decide)] at H; exact H
    clear H
    have H := H1
    clear H1
    by_cases c5 : a0 = 95
    · rw [if_pos c5] at H
      have c5b0 : (a0 == 95) = true := beq_iff_eq.mpr c5
      have c5b1 : (a0 != 95) = false := bne_eq_false_iff_eq.mpr c5
      clear c5
      obtain rfl := Option.some.inj H
      go_enter Try.func45, Try.ntmps45
      go_wp2_with (first | ((with_reducible refine gate_callee (f := 59) rfl ?_); refine goesL_ (some 6) rfl rfl Try.func59 (by kernel_rfl) rfl #[.int .u8 a0] rfl (by (try simp only [List.map_toArray, List.map_cons, List.map_nil]); first | done | rfl | (simp only [List.length_drop, List.length_take]; rfl)) ?_; (with_reducible refine (asmlex_letter.calls a0 false _ A3.out).mono ?_); rintro e w' ⟨rfl, ⟨nd, rfl⟩⟩; refine ⟨_, rfl, ?_⟩))
      go_ret
      exact ⟨by first | rfl | (simp; done) | (simp [*]; done), by repeat (first | exact Drawn0.refl _ | apply Drawn0.step)⟩
    · rw [if_neg c5] at H
      have c5b0 : (a0 == 95) = false := beq_eq_false_iff_ne.mpr c5
      have c5b1 : (a0 != 95) = true := bne_iff_ne.mpr c5
      by_cases c6 : a0 = 46
      · rw [if_pos c6] at H
        have c6b0 : (a0 == 46) = true := beq_iff_eq.mpr c6
        have c6b1 : (a0 != 46) = false := bne_eq_false_iff_eq.mpr c6
        clear c6
        obtain rfl := Option.some.inj H
        go_enter Try.func45, Try.ntmps45
        go_wp2_with (first | ((with_reducible refine gate_callee (f := 59) rfl ?_); refine goesL_ (some 6) rfl rfl Try.func59 (by kernel_rfl) rfl #[.int .u8 a0] rfl (by (try simp only [List.map_toArray, List.map_cons, List.map_nil]); first | done | rfl | (simp only [List.length_drop, List.length_take]; rfl)) ?_; (with_reducible refine (asmlex_letter.calls a0 false _ A3.out).mono ?_); rintro e w' ⟨rfl, ⟨nd, rfl⟩⟩; refine ⟨_, rfl, ?_⟩))
        go_ret
        exact ⟨by first | rfl | (simp; done) | (simp [*]; done), by repeat (first | exact Drawn0.refl _ | apply Drawn0.step)⟩
      · rw [if_neg c6] at H
        have c6b0 : (a0 == 46) = false := beq_eq_false_iff_ne.mpr c6
        have c6b1 : (a0 != 46) = true := bne_iff_ne.mpr c6
        by_cases c7 : a0 = 36
        · rw [if_pos c7] at H
          have c7b0 : (a0 == 36) = true := beq_iff_eq.mpr c7
          have c7b1 : (a0 != 36) = false := bne_eq_false_iff_eq.mpr c7
          clear c7
          obtain rfl := Option.some.inj H
          go_enter Try.func45, Try.ntmps45
          go_wp2_with (first | ((with_reducible refine gate_callee (f := 59) rfl ?_); refine goesL_ (some 6) rfl rfl Try.func59 (by kernel_rfl) rfl #[.int .u8 a0] rfl (by (try simp only [List.map_toArray, List.map_cons, List.map_nil]); first | done | rfl | (simp only [List.length_drop, List.length_take]; rfl)) ?_; (with_reducible refine (asmlex_letter.calls a0 false _ A3.out).mono ?_); rintro e w' ⟨rfl, ⟨nd, rfl⟩⟩; refine ⟨_, rfl, ?_⟩))
          go_ret
          exact ⟨by first | rfl | (simp; done) | (simp [*]; done), by repeat (first | exact Drawn0.refl _ | apply Drawn0.step)⟩
        · rw [if_neg c7] at H
          have c7b0 : (a0 == 36) = false := beq_eq_false_iff_ne.mpr c7
          have c7b1 : (a0 != 36) = true := bne_iff_ne.mpr c7
          by_cases c8 : a1 = true
          · subst c8
            have H1 : (some false) = some r := by rw [if_pos rfl] at H; exact H
            clear H
            have H := H1
            clear H1
            obtain rfl := Option.some.inj H
            go_enter Try.func45, Try.ntmps45
            go_wp2_with (first | ((with_reducible refine gate_callee (f := 59) rfl ?_); refine goesL_ (some 6) rfl rfl Try.func59 (by kernel_rfl) rfl #[.int .u8 a0] rfl (by (try simp only [List.map_toArray, List.map_cons, List.map_nil]); first | done | rfl | (simp only [List.length_drop, List.length_take]; rfl)) ?_; (with_reducible refine (asmlex_letter.calls a0 false _ A3.out).mono ?_); rintro e w' ⟨rfl, ⟨nd, rfl⟩⟩; refine ⟨_, rfl, ?_⟩))
            go_ret
            exact ⟨by first | rfl | (simp; done) | (simp [*]; done), by repeat (first | exact Drawn0.refl _ | apply Drawn0.step)⟩
          · replace c8 := Bool.eq_false_iff.mpr c8
            subst c8
            have H1 : ((asmlex_digit.f a0).bind fun t104 => (some t104)) = some r := by rw [if_neg (show ¬ (false = true) by decide)] at H; exact H
            clear H
            have H := H1
            clear H1
            replace H := Option.bind_eq_some_iff.mp H
            obtain ⟨t104, A90, H⟩ := H
            replace H : (some t104) = some r := H
            have A9 := Aside0.mk A90
            clear A90
            obtain rfl := Option.some.inj H
            go_enter Try.func45, Try.ntmps45
            go_wp2_with (first | ((with_reducible refine gate_callee (f := 59) rfl ?_); refine goesL_ (some 6) rfl rfl Try.func59 (by kernel_rfl) rfl #[.int .u8 a0] rfl (by (try simp only [List.map_toArray, List.map_cons, List.map_nil]); first | done | rfl | (simp only [List.length_drop, List.length_take]; rfl)) ?_; (with_reducible refine (asmlex_letter.calls a0 false _ A3.out).mono ?_); rintro e w' ⟨rfl, ⟨nd, rfl⟩⟩; refine ⟨_, rfl, ?_⟩) | (go_at_call 60; (with_reducible refine (asmlex_digit.calls a0 t104 _ A9.out).mono ?_); rintro e w' ⟨rfl, ⟨nd, rfl⟩⟩))
            go_ret
            exact ⟨by first | rfl | (simp; done) | (simp [*]; done), by repeat (first | exact Drawn0.refl _ | apply Drawn0.step)⟩
/-! ### asmlex_name: function 46 -/
def asmlex_name.f (a0 : ByteArray) : Option (Int × ByteArray × Int × Int × Int × Int) :=
  if a0.size ≤ 1000000000 then (if 14 < runS a0 then some (0, (⟨#[]⟩ : ByteArray), 0, 0, 0, 7) else some (1, a0.extract 0 (runS a0), 0, 0, (runS a0 : Int), 0)) else none
theorem asmlex_name.calls (a0 : ByteArray) (r1 : Int) (r2 : ByteArray) (r3 : Int) (r4 : Int) (r5 : Int) (r6 : Int) (w : World) (h : asmlex_name.f a0 = some (r1, r2, r3, r4, r5, r6)) :
    Calls Try.prog 46 #[.string a0] w fun e w' => e = .returned (.tuple #[.agg #[.int .i64 r1, .string r2, .int .i64 r3, .int .i64 r4], .int .i64 r5, .int .i64 r6]) ∧ Below w.heap.size w w' := name_own a0 r1 r2 r3 r4 r5 r6 w h
end Go.Proofs.Ytpinoobgnnlccaa.A

-- Written by a program of this session (mp.py) over the kit's print.py, with proofs by hand for what the print does not take.
namespace Go.Proofs.Ytpinoobgnnlccaa.A
open Go.RowKit Go.Proofs.YtpinoobgnnlccaaW.PrintWords Go.Proofs.YtpinoobgnnlccaaW.PrintLast Go.Proofs.YtpinoobgnnlccaaW.PrintMore
attribute [local go_sem] max2_int min2_int max_two min_two max_three min_three max_four min_four   -- for this text's walks alone
set_option linter.unusedVariables false
set_option linter.unusedSimpArgs false
/-! ### asmlex_Name: function 33 -/
def asmlex_Name.j0 : Nat → ByteArray → Bool → Option (Bool)
  | 0, _, _ => none
  | k + 1, x0, x13 => if x13 = true then (some false) else (if x0.toList = ([114, 48] : List UInt8) then (some false) else (if x0.toList = ([114, 49] : List UInt8) then (some false) else (if x0.toList = ([114, 50] : List UInt8) then (some false) else (if x0.toList = ([114, 51] : List UInt8) then (some false) else (if x0.toList = ([114, 52] : List UInt8) then (some false) else (if x0.toList = ([114, 53] : List UInt8) then (some false) else (if x0.toList = ([115, 112] : List UInt8) then (some false) else (if x0.toList = ([112, 99] : List UInt8) then (some false) else ((asmlex_name.f x0).bind fun bt107 => (if bt107.2.2.2.2.2 = 0 then (some (bt107.2.2.2.2.1 == (x0.size : Int))) else (some false)))))))))))
def asmlex_Name.f (k : Nat) (a0 : ByteArray) : Option (Bool) := if a0.toList = ([] : List UInt8) then (asmlex_Name.j0 k a0 true) else (if 0 < (a0.size : Int) then ((asmlex_nameByte.f (bt a0 0) true).bind fun t106 => (asmlex_Name.j0 k a0 (!t106))) else (none))
theorem asmlex_Name.mono_l : ∀ k, (∀ y0 y1, LeO (asmlex_Name.j0 k y0 y1) (asmlex_Name.j0 (k + 1) y0 y1))
  | 0 => fun _ _ r h => by simp [asmlex_Name.j0] at h
  | k + 1 => by
    have ih0 := asmlex_Name.mono_l k
    · intro y0 y1
      unfold asmlex_Name.j0
      repeat' first
      | (with_reducible exact ih0 _ _)
      | (with_reducible exact LeO.refl _)
      | (with_reducible exact LeO.none _)
      | (with_reducible refine LeO.ite ?_ ?_)
      | (with_reducible refine LeO.bind ?_ (fun _ => ?_))
      | exact ih0 _ _
      | exact LeO.none _
      | refine LeO.ite ?_ ?_
      | refine LeO.bind ?_ (fun _ => ?_)
theorem asmlex_Name.mono : ∀ a0 k, LeO (asmlex_Name.f k a0) (asmlex_Name.f (k + 1) a0) := by
  intro a0 k
  have ih0 := asmlex_Name.mono_l k
  unfold asmlex_Name.f
  repeat' first
      | (with_reducible exact ih0 _ _)
      | (with_reducible exact LeO.refl _)
      | (with_reducible exact LeO.none _)
      | (with_reducible refine LeO.ite ?_ ?_)
      | (with_reducible refine LeO.bind ?_ (fun _ => ?_))
      | exact ih0 _ _
      | exact LeO.none _
      | refine LeO.ite ?_ ?_
      | refine LeO.bind ?_ (fun _ => ?_)
set_option maxHeartbeats 8000000 in
set_option maxRecDepth 100000 in
theorem asmlex_Name.calls (k : Nat) (a0 : ByteArray) (r : Bool) (w : World) (h : asmlex_Name.f k a0 = some r) :
    Calls Try.prog 33 #[.string a0] w fun e w' => e = .returned (.bool r) ∧ Below w.heap.size w w' := by
  have hu38 := Try.underlying38
  have HB := Aside0.mk (Below.refl w.heap.size w)
  have H : (if a0.toList = ([] : List UInt8) then (asmlex_Name.j0 k a0 true) else (if 0 < (a0.size : Int) then ((asmlex_nameByte.f (bt a0 0) true).bind fun t106 => (asmlex_Name.j0 k a0 (!t106))) else (none))) = some r := h
  clear h
  have HC2 := Aside0.mk H
  clear H
  go_enter Try.func33, Try.ntmps33
  go_upto_region 1 with (fail)
  go_cut [13] (fun v13 wc => ∃ (kq : Nat) (x13_1 : Bool), v13 = .bool x13_1 ∧ Aside0 (asmlex_Name.j0 kq a0 x13_1 = some r) ∧ Aside0 (kq ≤ k) ∧ Aside0 (Below w.heap.size w wc))
  case first =>
    have H := HC2.out
    clear HC2
    by_cases c3 : a0.toList = ([] : List UInt8)
    · rw [if_pos c3] at H
      have c3b0 : (a0.toList == ([] : List UInt8)) = true := beq_iff_eq.mpr c3
      have c3b1 : (a0.toList != ([] : List UInt8)) = false := bne_eq_false_iff_eq.mpr c3
      clear c3
      (first | rw [c3b0] | (simp only [i64_w, i32_w]; rw [c3b0]) | skip)
      have H' := Aside0.mk H
      clear H
      go_wp2
      go_meet
      case rel => exact ⟨_, (true), (by first | rfl | (simp; done) | (simp [*]; done)), H', ⟨by first | omega | exact Nat.le_refl _⟩, ⟨by repeat (first | (with_reducible first | exact HB.out | apply below_alloc | apply pw_below_drewN | apply below_drew1) | exact HB.out)⟩⟩
    · rw [if_neg c3] at H
      have c3b0 : (a0.toList == ([] : List UInt8)) = false := beq_eq_false_iff_ne.mpr c3
      have c3b1 : (a0.toList != ([] : List UInt8)) = true := bne_iff_ne.mpr c3
      (first | rw [c3b0] | (simp only [i64_w, i32_w]; rw [c3b0]) | skip)
      by_cases c4 : 0 < (a0.size : Int)
      · rw [if_pos c4] at H
        have c4b0 : decide (0 < (a0.size : Int)) = true := decide_eq_true c4
        have c4b1 : decide (0 < a0.size) = true := decide_eq_true (by omega)
        clear c4
        replace H := Option.bind_eq_some_iff.mp H
        obtain ⟨t106, A60, H⟩ := H
        replace H : (asmlex_Name.j0 k a0 (!t106)) = some r := H
        have A6 := Aside0.mk A60
        clear A60
        have H' := Aside0.mk H
        clear H
        have p5 : 0 ≤ (0 : Int) := (by omega)
        have q5 : 0 < a0.size := (by have : (0 : Int) < (a0.size : Int) := of_decide_eq_true (by first | (with_reducible assumption) | assumption); omega)
        have hx5 : ∀ h : 0 < a0.size, ((a0[0]'h).toNat : Int) = bt a0 0 := bt_at a0 0
        clear p5
        have qi5 : (0 < (a0.size : Int)) = True := eq_true (of_decide_eq_true (by first | (with_reducible assumption) | assumption))
        replace q5 := eq_true q5
        go_wp2_with (first | (go_at_call 45; (with_reducible refine (asmlex_nameByte.calls (bt a0 0) true t106 _ A6.out).mono ?_); rintro e w' ⟨rfl, ⟨nd, rfl⟩⟩))
        go_meet
        case rel => exact ⟨_, (!t106), (by first | rfl | (simp; done) | (simp [*]; done)), H', ⟨by first | omega | exact Nat.le_refl _⟩, ⟨by repeat (first | (with_reducible first | exact HB.out | apply below_alloc | apply pw_below_drewN | apply below_drew1) | exact HB.out)⟩⟩
      · rw [if_neg c4] at H
        exact absurd H (by simp)
  case rest =>
    clear HC2
    try clear p2
    try clear c3
    try clear c3b0
    try clear c3b1
    try clear c4
    try clear c4b0
    try clear c4b1
    try clear p5
    try clear q5
    try clear hx5
    try clear qi5
    try clear p5
    try clear q5
    obtain ⟨kq, x13_1, rfl, HA, HJ1, HB⟩ := hcut
    cases kq with
    | zero => exact absurd HA.out (by simp [asmlex_Name.j0])
    | succ kj1 =>
      have H := HA.out
      clear HA
      simp only [asmlex_Name.j0] at H
      by_cases c7 : x13_1 = true
      · subst c7
        have H1 : (some false) = some r := by rw [if_pos rfl] at H; exact H
        clear H
        have H := H1
        clear H1
        obtain rfl := Option.some.inj H
        go_wp2
        go_ret
        exact ⟨by first | rfl | (simp [errW_none, errW_some] <;> rfl) | (simp [*, errW_none, errW_some] <;> rfl), by repeat (first | (with_reducible first | exact HB.out | apply below_alloc | apply pw_below_drewN | apply below_drew1) | exact HB.out)⟩
      · replace c7 := Bool.eq_false_iff.mpr c7
        subst c7
        have H1 : (if a0.toList = ([114, 48] : List UInt8) then (some false) else (if a0.toList = ([114, 49] : List UInt8) then (some false) else (if a0.toList = ([114, 50] : List UInt8) then (some false) else (if a0.toList = ([114, 51] : List UInt8) then (some false) else (if a0.toList = ([114, 52] : List UInt8) then (some false) else (if a0.toList = ([114, 53] : List UInt8) then (some false) else (if a0.toList = ([115, 112] : List UInt8) then (some false) else (if a0.toList = ([112, 99] : List UInt8) then (some false) else ((asmlex_name.f a0).bind fun bt107 => (if bt107.2.2.2.2.2 = 0 then (some (bt107.2.2.2.2.1 == (a0.size : Int))) else (some false))))))))))) = some r := by rw [if_neg (show ¬ (false = true) by decide)] at H; exact H
        clear H
        have H := H1
        clear H1
        by_cases c8 : a0.toList = ([114, 48] : List UInt8)
        · rw [if_pos c8] at H
          have c8b0 : (a0.toList == ([114, 48] : List UInt8)) = true := beq_iff_eq.mpr c8
          have c8b1 : (a0.toList != ([114, 48] : List UInt8)) = false := bne_eq_false_iff_eq.mpr c8
          clear c8
          obtain rfl := Option.some.inj H
          go_wp2
          go_ret
          exact ⟨by first | rfl | (simp [errW_none, errW_some] <;> rfl) | (simp [*, errW_none, errW_some] <;> rfl), by repeat (first | (with_reducible first | exact HB.out | apply below_alloc | apply pw_below_drewN | apply below_drew1) | exact HB.out)⟩
        · rw [if_neg c8] at H
          have c8b0 : (a0.toList == ([114, 48] : List UInt8)) = false := beq_eq_false_iff_ne.mpr c8
          have c8b1 : (a0.toList != ([114, 48] : List UInt8)) = true := bne_iff_ne.mpr c8
          by_cases c9 : a0.toList = ([114, 49] : List UInt8)
          · rw [if_pos c9] at H
            have c9b0 : (a0.toList == ([114, 49] : List UInt8)) = true := beq_iff_eq.mpr c9
            have c9b1 : (a0.toList != ([114, 49] : List UInt8)) = false := bne_eq_false_iff_eq.mpr c9
            clear c9
            obtain rfl := Option.some.inj H
            go_wp2
            go_ret
            exact ⟨by first | rfl | (simp [errW_none, errW_some] <;> rfl) | (simp [*, errW_none, errW_some] <;> rfl), by repeat (first | (with_reducible first | exact HB.out | apply below_alloc | apply pw_below_drewN | apply below_drew1) | exact HB.out)⟩
          · rw [if_neg c9] at H
            have c9b0 : (a0.toList == ([114, 49] : List UInt8)) = false := beq_eq_false_iff_ne.mpr c9
            have c9b1 : (a0.toList != ([114, 49] : List UInt8)) = true := bne_iff_ne.mpr c9
            by_cases c10 : a0.toList = ([114, 50] : List UInt8)
            · rw [if_pos c10] at H
              have c10b0 : (a0.toList == ([114, 50] : List UInt8)) = true := beq_iff_eq.mpr c10
              have c10b1 : (a0.toList != ([114, 50] : List UInt8)) = false := bne_eq_false_iff_eq.mpr c10
              clear c10
              obtain rfl := Option.some.inj H
              go_wp2
              go_ret
              exact ⟨by first | rfl | (simp [errW_none, errW_some] <;> rfl) | (simp [*, errW_none, errW_some] <;> rfl), by repeat (first | (with_reducible first | exact HB.out | apply below_alloc | apply pw_below_drewN | apply below_drew1) | exact HB.out)⟩
            · rw [if_neg c10] at H
              have c10b0 : (a0.toList == ([114, 50] : List UInt8)) = false := beq_eq_false_iff_ne.mpr c10
              have c10b1 : (a0.toList != ([114, 50] : List UInt8)) = true := bne_iff_ne.mpr c10
              by_cases c11 : a0.toList = ([114, 51] : List UInt8)
              · rw [if_pos c11] at H
                have c11b0 : (a0.toList == ([114, 51] : List UInt8)) = true := beq_iff_eq.mpr c11
                have c11b1 : (a0.toList != ([114, 51] : List UInt8)) = false := bne_eq_false_iff_eq.mpr c11
                clear c11
                obtain rfl := Option.some.inj H
                go_wp2
                go_ret
                exact ⟨by first | rfl | (simp [errW_none, errW_some] <;> rfl) | (simp [*, errW_none, errW_some] <;> rfl), by repeat (first | (with_reducible first | exact HB.out | apply below_alloc | apply pw_below_drewN | apply below_drew1) | exact HB.out)⟩
              · rw [if_neg c11] at H
                have c11b0 : (a0.toList == ([114, 51] : List UInt8)) = false := beq_eq_false_iff_ne.mpr c11
                have c11b1 : (a0.toList != ([114, 51] : List UInt8)) = true := bne_iff_ne.mpr c11
                by_cases c12 : a0.toList = ([114, 52] : List UInt8)
                · rw [if_pos c12] at H
                  have c12b0 : (a0.toList == ([114, 52] : List UInt8)) = true := beq_iff_eq.mpr c12
                  have c12b1 : (a0.toList != ([114, 52] : List UInt8)) = false := bne_eq_false_iff_eq.mpr c12
                  clear c12
                  obtain rfl := Option.some.inj H
                  go_wp2
                  go_ret
                  exact ⟨by first | rfl | (simp [errW_none, errW_some] <;> rfl) | (simp [*, errW_none, errW_some] <;> rfl), by repeat (first | (with_reducible first | exact HB.out | apply below_alloc | apply pw_below_drewN | apply below_drew1) | exact HB.out)⟩
                · rw [if_neg c12] at H
                  have c12b0 : (a0.toList == ([114, 52] : List UInt8)) = false := beq_eq_false_iff_ne.mpr c12
                  have c12b1 : (a0.toList != ([114, 52] : List UInt8)) = true := bne_iff_ne.mpr c12
                  by_cases c13 : a0.toList = ([114, 53] : List UInt8)
                  · rw [if_pos c13] at H
                    have c13b0 : (a0.toList == ([114, 53] : List UInt8)) = true := beq_iff_eq.mpr c13
                    have c13b1 : (a0.toList != ([114, 53] : List UInt8)) = false := bne_eq_false_iff_eq.mpr c13
                    clear c13
                    obtain rfl := Option.some.inj H
                    go_wp2
                    go_ret
                    exact ⟨by first | rfl | (simp [errW_none, errW_some] <;> rfl) | (simp [*, errW_none, errW_some] <;> rfl), by repeat (first | (with_reducible first | exact HB.out | apply below_alloc | apply pw_below_drewN | apply below_drew1) | exact HB.out)⟩
                  · rw [if_neg c13] at H
                    have c13b0 : (a0.toList == ([114, 53] : List UInt8)) = false := beq_eq_false_iff_ne.mpr c13
                    have c13b1 : (a0.toList != ([114, 53] : List UInt8)) = true := bne_iff_ne.mpr c13
                    by_cases c14 : a0.toList = ([115, 112] : List UInt8)
                    · rw [if_pos c14] at H
                      have c14b0 : (a0.toList == ([115, 112] : List UInt8)) = true := beq_iff_eq.mpr c14
                      have c14b1 : (a0.toList != ([115, 112] : List UInt8)) = false := bne_eq_false_iff_eq.mpr c14
                      clear c14
                      obtain rfl := Option.some.inj H
                      go_wp2
                      go_ret
                      exact ⟨by first | rfl | (simp [errW_none, errW_some] <;> rfl) | (simp [*, errW_none, errW_some] <;> rfl), by repeat (first | (with_reducible first | exact HB.out | apply below_alloc | apply pw_below_drewN | apply below_drew1) | exact HB.out)⟩
                    · rw [if_neg c14] at H
                      have c14b0 : (a0.toList == ([115, 112] : List UInt8)) = false := beq_eq_false_iff_ne.mpr c14
                      have c14b1 : (a0.toList != ([115, 112] : List UInt8)) = true := bne_iff_ne.mpr c14
                      by_cases c15 : a0.toList = ([112, 99] : List UInt8)
                      · rw [if_pos c15] at H
                        have c15b0 : (a0.toList == ([112, 99] : List UInt8)) = true := beq_iff_eq.mpr c15
                        have c15b1 : (a0.toList != ([112, 99] : List UInt8)) = false := bne_eq_false_iff_eq.mpr c15
                        clear c15
                        obtain rfl := Option.some.inj H
                        go_wp2
                        go_ret
                        exact ⟨by first | rfl | (simp [errW_none, errW_some] <;> rfl) | (simp [*, errW_none, errW_some] <;> rfl), by repeat (first | (with_reducible first | exact HB.out | apply below_alloc | apply pw_below_drewN | apply below_drew1) | exact HB.out)⟩
                      · rw [if_neg c15] at H
                        have c15b0 : (a0.toList == ([112, 99] : List UInt8)) = false := beq_eq_false_iff_ne.mpr c15
                        have c15b1 : (a0.toList != ([112, 99] : List UInt8)) = true := bne_iff_ne.mpr c15
                        replace H := Option.bind_eq_some_iff.mp H
                        obtain ⟨⟨t107, t108, t109, t110, t111, t112⟩, A160, H⟩ := H
                        replace H : (if t112 = 0 then (some (t111 == (a0.size : Int))) else (some false)) = some r := H
                        have A16 := Aside0.mk A160
                        clear A160
                        by_cases c17 : t112 = 0
                        · rw [if_pos c17] at H
                          have c17b0 : (t112 == 0) = true := beq_iff_eq.mpr c17
                          have c17b1 : (t112 != 0) = false := bne_eq_false_iff_eq.mpr c17
                          clear c17
                          obtain rfl := Option.some.inj H
                          go_wp2_with (first | ((with_reducible refine gate_callee (f := 46) rfl ?_); refine goesL_ (some 26) rfl rfl Try.func46 (by kernel_rfl) rfl #[.string a0] rfl (by (try simp only [List.map_toArray, List.map_cons, List.map_nil]); first | done | rfl | (simp only [List.length_drop, List.length_take]; rfl)) ?_; (with_reducible refine (asmlex_name.calls a0 t107 t108 t109 t110 t111 t112 _ A16.out).mono ?_); rintro e w18 ⟨rfl, hb⟩; refine ⟨_, rfl, ?_⟩; have n0_ := Aside0.mk (below_step (by repeat (first | (with_reducible first | exact HB.out | apply below_alloc | apply pw_below_drewN | apply below_drew1) | exact HB.out)) hb); clear HB; have HB := n0_; clear n0_; (try clear hb); (try clear hb2); (try clear hk); (try clear hi)) | ((with_reducible refine gate_dst (N := 3) rfl ?_); (try (refine gate_guard (by rfl) ?_; dsimp only)); refine box_event ?hg (N := 3) ?hd (cs := #[.int .i64 0, .string (⟨#[]⟩ : ByteArray), .int .i64 0, .int .i64 0]) (t := 38) ?hr ?_; (case hd => rfl); (case hg => rfl); (case hr => first | (go_simp; done) | (go_simp; rfl)); intro gb113 hg w19 hbox hb; have n0_ := Aside0.mk (below_step (by repeat (first | (with_reducible first | exact HB.out | apply below_alloc | apply pw_below_drewN | apply below_drew1) | exact HB.out)) hb); have n1_ := Aside0.mk (hbox); have n2_ := Aside0.mk ((by rw [hg]; exact (below_size (by repeat (first | (with_reducible first | exact HB.out | apply below_alloc | apply pw_below_drewN | apply below_drew1) | exact HB.out))) : w.heap.size ≤ gb113)); have n3_ := Aside0.mk ((by rw [hg]; exact (below_size (by repeat (first | (with_reducible first | exact HB.out | apply below_alloc | apply pw_below_drewN | apply below_drew1) | exact HB.out))) : w.heap.size ≤ gb113)); clear HB; have HB := n0_; have BK113 := n1_; have GW113 := n2_; have GE113 := n3_; clear n0_ n1_ n2_ n3_; clear hb hbox hg; have hcz20_0 : w19.cell? ⟨gb113, 0, none⟩ = some (.int .i64 0) := (blk_cell BK113.out 0).trans rfl; have hcz20_1 : w19.cell? ⟨gb113, 1, none⟩ = some (.string (⟨#[]⟩ : ByteArray)) := (blk_cell BK113.out 1).trans rfl; have hcz20_2 : w19.cell? ⟨gb113, 2, none⟩ = some (.int .i64 0) := (blk_cell BK113.out 2).trans rfl; have hcz20_3 : w19.cell? ⟨gb113, 3, none⟩ = some (.int .i64 0) := (blk_cell BK113.out 3).trans rfl; have hfz20_0 := blk_frozen BK113.out 0; have hfz20_1 := blk_frozen BK113.out 1; have hfz20_2 := blk_frozen BK113.out 2; have hfz20_3 := blk_frozen BK113.out 3))
                          go_ret
                          exact ⟨by first | rfl | (simp [errW_none, errW_some] <;> rfl) | (simp [*, errW_none, errW_some] <;> rfl), by repeat (first | (with_reducible first | exact HB.out | apply below_alloc | apply pw_below_drewN | apply below_drew1 | refine below_set ?_ GE113.out) | exact HB.out)⟩
                        · rw [if_neg c17] at H
                          have c17b0 : (t112 == 0) = false := beq_eq_false_iff_ne.mpr c17
                          have c17b1 : (t112 != 0) = true := bne_iff_ne.mpr c17
                          obtain rfl := Option.some.inj H
                          go_wp2_with (first | ((with_reducible refine gate_callee (f := 46) rfl ?_); refine goesL_ (some 26) rfl rfl Try.func46 (by kernel_rfl) rfl #[.string a0] rfl (by (try simp only [List.map_toArray, List.map_cons, List.map_nil]); first | done | rfl | (simp only [List.length_drop, List.length_take]; rfl)) ?_; (with_reducible refine (asmlex_name.calls a0 t107 t108 t109 t110 t111 t112 _ A16.out).mono ?_); rintro e w21 ⟨rfl, hb⟩; refine ⟨_, rfl, ?_⟩; have n0_ := Aside0.mk (below_step (by repeat (first | (with_reducible first | exact HB.out | apply below_alloc | apply pw_below_drewN | apply below_drew1) | exact HB.out)) hb); clear HB; have HB := n0_; clear n0_; (try clear hb); (try clear hb2); (try clear hk); (try clear hi)) | ((with_reducible refine gate_dst (N := 3) rfl ?_); (try (refine gate_guard (by rfl) ?_; dsimp only)); refine box_event ?hg (N := 3) ?hd (cs := #[.int .i64 0, .string (⟨#[]⟩ : ByteArray), .int .i64 0, .int .i64 0]) (t := 38) ?hr ?_; (case hd => rfl); (case hg => rfl); (case hr => first | (go_simp; done) | (go_simp; rfl)); intro gb113 hg w22 hbox hb; have n0_ := Aside0.mk (below_step (by repeat (first | (with_reducible first | exact HB.out | apply below_alloc | apply pw_below_drewN | apply below_drew1) | exact HB.out)) hb); have n1_ := Aside0.mk (hbox); have n2_ := Aside0.mk ((by rw [hg]; exact (below_size (by repeat (first | (with_reducible first | exact HB.out | apply below_alloc | apply pw_below_drewN | apply below_drew1) | exact HB.out))) : w.heap.size ≤ gb113)); have n3_ := Aside0.mk ((by rw [hg]; exact (below_size (by repeat (first | (with_reducible first | exact HB.out | apply below_alloc | apply pw_below_drewN | apply below_drew1) | exact HB.out))) : w.heap.size ≤ gb113)); clear HB; have HB := n0_; have BK113 := n1_; have GW113 := n2_; have GE113 := n3_; clear n0_ n1_ n2_ n3_; clear hb hbox hg; have hcz23_0 : w22.cell? ⟨gb113, 0, none⟩ = some (.int .i64 0) := (blk_cell BK113.out 0).trans rfl; have hcz23_1 : w22.cell? ⟨gb113, 1, none⟩ = some (.string (⟨#[]⟩ : ByteArray)) := (blk_cell BK113.out 1).trans rfl; have hcz23_2 : w22.cell? ⟨gb113, 2, none⟩ = some (.int .i64 0) := (blk_cell BK113.out 2).trans rfl; have hcz23_3 : w22.cell? ⟨gb113, 3, none⟩ = some (.int .i64 0) := (blk_cell BK113.out 3).trans rfl; have hfz23_0 := blk_frozen BK113.out 0; have hfz23_1 := blk_frozen BK113.out 1; have hfz23_2 := blk_frozen BK113.out 2; have hfz23_3 := blk_frozen BK113.out 3))
                          go_ret
                          exact ⟨by first | rfl | (simp [errW_none, errW_some] <;> rfl) | (simp [*, errW_none, errW_some] <;> rfl), by repeat (first | (with_reducible first | exact HB.out | apply below_alloc | apply pw_below_drewN | apply below_drew1 | refine below_set ?_ GE113.out) | exact HB.out)⟩
end Go.Proofs.Ytpinoobgnnlccaa.A

/- What the printed asmlex.Name and asmexpr.valid say is what the plain functions say. Condition: texts of at most 1000000000 bytes. -/
namespace Go.Proofs.Ytpinoobgnnlccaa.A
open Go Go.RowKit Go.Proofs.YtpinoobgnnlccaaW.PrintWords
set_option linter.unusedSimpArgs false
set_option linter.unusedVariables false
theorem letter_f (c : Int) : asmlex_letter.f c = some (letC c) := by
  unfold asmlex_letter.f letC
  by_cases h1 : c ≥ 97 <;> by_cases h2 : c ≤ 122 <;> by_cases h3 : c ≥ 65 <;> by_cases h4 : c ≤ 90 <;> simp [h1, h2, h3, h4] <;> omega
theorem digit_f (c : Int) : asmlex_digit.f c = some (digC c) := by
  unfold asmlex_digit.f digC
  by_cases h1 : c ≥ 48 <;> by_cases h2 : c ≤ 57 <;> simp [h1, h2]
theorem nbyte_f (c : Int) (b : Bool) : asmlex_nameByte.f c b = some (nbC c b) := by
  unfold asmlex_nameByte.f nbC
  rw [letter_f, Option.bind_some, digit_f]
  cases letC c <;> by_cases h1 : c = 95 <;> by_cases h2 : c = 46 <;> by_cases h3 : c = 36 <;> cases b <;> simp [h1, h2, h3]
theorem byte_at (s : ByteArray) (i : Nat) (h : i < s.data.toList.length) : bt s (i : Int) = ((s.data.toList[i]).toNat : Int) := by
  unfold bt
  have hi : ((i : Int).toNat) = i := by simp
  have hs : i < s.size := by simpa using h
  rw [dif_pos (by rw [hi]; exact hs)]
  congr 2
theorem takeWhile_len (l : List UInt8) : ((l.takeWhile nbU).length = l.length) ↔ l.all nbU = true := by
  induction l with
  | nil => simp
  | cons c r ih =>
    rw [List.takeWhile_cons, List.all_cons]
    cases h : nbU c
    · simp
    · simp only [if_true, List.length_cons, Bool.true_and]; rw [← ih]; omega
theorem name_f (k : Nat) (s : ByteArray) (hs : s.size ≤ 1000000000) : asmlex_Name.f (k + 1) s = some (nameS s) := by
  unfold asmlex_Name.f nameS
  have hl : s.size = s.data.toList.length := by simp
  have hrun : runS s = (s.data.toList.takeWhile nbU).length := rfl
  have hname : asmlex_name.f s = (if 14 < runS s then some (0, (⟨#[]⟩ : ByteArray), 0, 0, 0, 7) else some (1, s.extract 0 (runS s), 0, 0, (runS s : Int), 0)) := by unfold asmlex_name.f; rw [if_pos hs]
  have hbt := byte_at s 0
  simp only [ByteArray.toList_eq] at *
  generalize hg : s.data.toList = l at *
  cases l with
  | nil => rw [if_pos rfl]; unfold asmlex_Name.j0; simp [nameL]
  | cons c r =>
    rw [if_neg (by simp), if_pos (by rw [hl]; simp)]
    have hb0 : bt s 0 = (c.toNat : Int) := hbt (by simp)
    rw [hb0, nbyte_f, Option.bind_some]
    unfold asmlex_Name.j0
    simp only [ByteArray.toList_eq, hg]
    cases h0 : nbC (c.toNat : Int) true
    · simp [nameL, h0]
    · rw [if_neg (by simp)]
      by_cases hreg : regs.contains (c :: r) = true
      · have : nameL (c :: r) = false := by unfold nameL; rw [hreg]; simp
        rw [this]
        simp only [regs, List.contains_cons, List.contains_nil, Bool.or_false, Bool.or_eq_true, beq_iff_eq] at hreg
        rcases hreg with h | h | h | h | h | h | h | h <;> rw [h] <;> simp
      · have hno : ∀ x ∈ regs, ¬ (c :: r) = x := fun x hx e => hreg (by rw [List.contains_iff_mem]; exact e ▸ hx)
        rw [if_neg (hno _ (by simp [regs])), if_neg (hno _ (by simp [regs])), if_neg (hno _ (by simp [regs])), if_neg (hno _ (by simp [regs])), if_neg (hno _ (by simp [regs])), if_neg (hno _ (by simp [regs])), if_neg (hno _ (by simp [regs])), if_neg (hno _ (by simp [regs])), hname]
        have hreg' : regs.contains (c :: r) = false := by simpa using hreg
        have htw := takeWhile_len (c :: r)
        have hle := (List.takeWhile_prefix nbU (l := c :: r)).length_le
        have hval : nameL (c :: r) = ((c :: r).all nbU && decide ((c :: r).length ≤ 14)) := by unfold nameL; rw [hreg']; simp [h0]
        rw [hval]
        by_cases h14 : 14 < runS s
        · rw [if_pos h14, Option.bind_some]
          have : ¬ (c :: r).length ≤ 14 := by rw [hrun] at h14; omega
          rw [decide_eq_false this]; simp
        · rw [if_neg h14, Option.bind_some, if_pos rfl]
          congr 1
          rw [Bool.eq_iff_iff, beq_iff_eq, Bool.and_eq_true, decide_eq_true_eq, ← htw, hl, hrun]
          rw [hrun] at h14
          show ((List.takeWhile nbU (c :: r)).length : Int) = ((c :: r).length : Int) ↔ _
          constructor
          · intro h; have : (List.takeWhile nbU (c :: r)).length = (c :: r).length := by exact_mod_cast h
            exact ⟨this, by omega⟩
          · intro h; exact_mod_cast h.1
end Go.Proofs.Ytpinoobgnnlccaa.A

-- Written by a program of this session (mp.py) over the kit's print.py, with proofs by hand for what the print does not take.
namespace Go.Proofs.Ytpinoobgnnlccaa.A
open Go.RowKit Go.Proofs.YtpinoobgnnlccaaW.PrintWords Go.Proofs.YtpinoobgnnlccaaW.PrintLast Go.Proofs.YtpinoobgnnlccaaW.PrintMore
attribute [local go_sem] max2_int min2_int max_two min_two max_three min_three max_four min_four   -- for this text's walks alone
set_option linter.unusedVariables false
set_option linter.unusedSimpArgs false
/-! ### asmexpr_valid: function 25 -/
def asmexpr_valid.j0 : Nat → Bool → Int → ByteArray → Int → Option (Bool)
  | 0, _, _, _, _ => none
  | k + 1, x20, x115000, x115001, x115002 => if x20 = true then (some false) else (if x115000 = 4 then ((asmlex_Name.f k x115001).bind fun t115 => (some t115)) else (some (x115001.toList == ([] : List UInt8))))
def asmexpr_valid.f (k : Nat) (a0_0 : Int) (a0_1 : ByteArray) (a0_2 : Int) : Option (Bool) := if a0_0 < 0 then (asmexpr_valid.j0 k true a0_0 a0_1 a0_2) else (if a0_0 > 4 then (asmexpr_valid.j0 k true a0_0 a0_1 a0_2) else (if a0_2 < 0 then (asmexpr_valid.j0 k true a0_0 a0_1 a0_2) else (asmexpr_valid.j0 k (decide (a0_2 > 65535)) a0_0 a0_1 a0_2)))
theorem asmexpr_valid.mono_l : ∀ k, (∀ y0 y1 y2 y3, LeO (asmexpr_valid.j0 k y0 y1 y2 y3) (asmexpr_valid.j0 (k + 1) y0 y1 y2 y3))
  | 0 => fun _ _ _ _ r h => by simp [asmexpr_valid.j0] at h
  | k + 1 => by
    have ih0 := asmexpr_valid.mono_l k
    · intro y0 y1 y2 y3
      unfold asmexpr_valid.j0
      repeat' first
      | (with_reducible exact ih0 _ _ _ _)
      | (with_reducible exact asmlex_Name.mono _ _)
      | (with_reducible exact LeO.refl _)
      | (with_reducible exact LeO.none _)
      | (with_reducible refine LeO.ite ?_ ?_)
      | (with_reducible refine LeO.bind ?_ (fun _ => ?_))
      | exact ih0 _ _ _ _
      | exact asmlex_Name.mono _ _
      | exact LeO.none _
      | refine LeO.ite ?_ ?_
      | refine LeO.bind ?_ (fun _ => ?_)
theorem asmexpr_valid.mono : ∀ a0 a1 a2 k, LeO (asmexpr_valid.f k a0 a1 a2) (asmexpr_valid.f (k + 1) a0 a1 a2) := by
  intro a0 a1 a2 k
  have ih0 := asmexpr_valid.mono_l k
  unfold asmexpr_valid.f
  repeat' first
      | (with_reducible exact ih0 _ _ _ _)
      | (with_reducible exact asmlex_Name.mono _ _)
      | (with_reducible exact LeO.refl _)
      | (with_reducible exact LeO.none _)
      | (with_reducible refine LeO.ite ?_ ?_)
      | (with_reducible refine LeO.bind ?_ (fun _ => ?_))
      | exact ih0 _ _ _ _
      | exact asmlex_Name.mono _ _
      | exact LeO.none _
      | refine LeO.ite ?_ ?_
      | refine LeO.bind ?_ (fun _ => ?_)
set_option maxHeartbeats 8000000 in
set_option maxRecDepth 100000 in
theorem asmexpr_valid.calls (k : Nat) (a0_0 : Int) (a0_1 : ByteArray) (a0_2 : Int) (r : Bool) (w : World) (h : asmexpr_valid.f k a0_0 a0_1 a0_2 = some r) :
    Calls Try.prog 25 #[.agg #[.int .i64 a0_0, .string a0_1, .int .i64 a0_2]] w fun e w' => e = .returned (.bool r) ∧ Below w.heap.size w w' := by
  have hu24 := Try.underlying24
  have HB := Aside0.mk (Below.refl w.heap.size w)
  have H : (if a0_0 < 0 then (asmexpr_valid.j0 k true a0_0 a0_1 a0_2) else (if a0_0 > 4 then (asmexpr_valid.j0 k true a0_0 a0_1 a0_2) else (if a0_2 < 0 then (asmexpr_valid.j0 k true a0_0 a0_1 a0_2) else (asmexpr_valid.j0 k (decide (a0_2 > 65535)) a0_0 a0_1 a0_2)))) = some r := h
  clear h
  have HC2 := Aside0.mk H
  clear H
  go_enter Try.func25, Try.ntmps25
  go_upto_region 1 with (first | ((with_reducible refine gate_dst (N := 1) rfl ?_); refine box_event ?hg (N := 1) ?hd (cs := #[.int .i64 a0_0, .string a0_1, .int .i64 a0_2]) (t := 24) ?hr ?_; (case hd => rfl); (case hg => rfl); (case hr => first | (go_simp; done) | (go_simp; rfl)); intro gb114 hg w3 hbox hb; have n0_ := Aside0.mk (below_step (by repeat (first | (with_reducible first | exact HB.out | apply below_alloc | apply pw_below_drewN | apply below_drew1) | exact HB.out)) hb); have n1_ := Aside0.mk (hbox); have n2_ := Aside0.mk ((by rw [hg]; exact (below_size (by repeat (first | (with_reducible first | exact HB.out | apply below_alloc | apply pw_below_drewN | apply below_drew1) | exact HB.out))) : w.heap.size ≤ gb114)); have n3_ := Aside0.mk ((by rw [hg]; exact (below_size (by repeat (first | (with_reducible first | exact HB.out | apply below_alloc | apply pw_below_drewN | apply below_drew1) | exact HB.out))) : w.heap.size ≤ gb114)); clear HB; have HB := n0_; have BK114 := n1_; have GW114 := n2_; have GE114 := n3_; clear n0_ n1_ n2_ n3_; clear hb hbox hg))
  (try simp only [Act.put, List.setIfInBounds_toArray, List.set_cons_zero, List.set_cons_succ])
  go_cut [20] (fun v20 wc => ∃ (kq : Nat) (x20_1 : Bool), v20 = .bool x20_1 ∧ Aside0 (asmexpr_valid.j0 kq x20_1 a0_0 a0_1 a0_2 = some r) ∧ Aside0 (kq ≤ k) ∧ Aside0 (wc.heap[gb114]? = some (.cells #[.int .i64 a0_0, .string a0_1, .int .i64 a0_2] 24 (0, 0))) ∧ Aside0 (Below w.heap.size w wc))
  case first =>
    have H := HC2.out
    clear HC2
    by_cases c4 : a0_0 < 0
    · rw [if_pos c4] at H
      have c4b0 : decide (a0_0 < 0) = true := decide_eq_true c4
      clear c4
      (first | rw [c4b0] | (simp only [i64_w, i32_w]; rw [c4b0]) | skip)
      have H' := Aside0.mk H
      clear H
      have hcz5_0 : w3.cell? ⟨gb114, 0, none⟩ = some (.int .i64 a0_0) := (blk_cell BK114.out 0).trans rfl
      have hcz5_1 : w3.cell? ⟨gb114, 1, none⟩ = some (.string a0_1) := (blk_cell BK114.out 1).trans rfl
      have hcz5_2 : w3.cell? ⟨gb114, 2, none⟩ = some (.int .i64 a0_2) := (blk_cell BK114.out 2).trans rfl
      have hfz5_0 := blk_frozen BK114.out 0
      have hfz5_1 := blk_frozen BK114.out 1
      have hfz5_2 := blk_frozen BK114.out 2
      go_wp2
      go_meet
      case rel => exact ⟨_, (true), (by first | rfl | (simp; done) | (simp [*]; done)), H', ⟨by first | omega | exact Nat.le_refl _⟩, ⟨by (with_reducible repeat (first | refine blk_drewN ?_ _ | refine blk_drew ?_ | refine blk_alloc ?_ _)); exact BK114.out⟩, ⟨by repeat (first | (with_reducible first | exact HB.out | apply below_alloc | apply pw_below_drewN | apply below_drew1 | refine below_set ?_ GE114.out) | exact HB.out)⟩⟩
    · rw [if_neg c4] at H
      have c4b0 : decide (a0_0 < 0) = false := decide_eq_false c4
      clear c4
      (first | rw [c4b0] | (simp only [i64_w, i32_w]; rw [c4b0]) | skip)
      by_cases c6 : a0_0 > 4
      · rw [if_pos c6] at H
        have c6b0 : decide (4 < a0_0) = true := decide_eq_true c6
        clear c6
        have H' := Aside0.mk H
        clear H
        have hcz7_0 : w3.cell? ⟨gb114, 0, none⟩ = some (.int .i64 a0_0) := (blk_cell BK114.out 0).trans rfl
        have hcz7_1 : w3.cell? ⟨gb114, 1, none⟩ = some (.string a0_1) := (blk_cell BK114.out 1).trans rfl
        have hcz7_2 : w3.cell? ⟨gb114, 2, none⟩ = some (.int .i64 a0_2) := (blk_cell BK114.out 2).trans rfl
        have hfz7_0 := blk_frozen BK114.out 0
        have hfz7_1 := blk_frozen BK114.out 1
        have hfz7_2 := blk_frozen BK114.out 2
        go_wp2
        go_meet
        case rel => exact ⟨_, (true), (by first | rfl | (simp; done) | (simp [*]; done)), H', ⟨by first | omega | exact Nat.le_refl _⟩, ⟨by (with_reducible repeat (first | refine blk_drewN ?_ _ | refine blk_drew ?_ | refine blk_alloc ?_ _)); exact BK114.out⟩, ⟨by repeat (first | (with_reducible first | exact HB.out | apply below_alloc | apply pw_below_drewN | apply below_drew1 | refine below_set ?_ GE114.out) | exact HB.out)⟩⟩
      · rw [if_neg c6] at H
        have c6b0 : decide (4 < a0_0) = false := decide_eq_false c6
        clear c6
        by_cases c8 : a0_2 < 0
        · rw [if_pos c8] at H
          have c8b0 : decide (a0_2 < 0) = true := decide_eq_true c8
          clear c8
          have H' := Aside0.mk H
          clear H
          have hcz9_0 : w3.cell? ⟨gb114, 0, none⟩ = some (.int .i64 a0_0) := (blk_cell BK114.out 0).trans rfl
          have hcz9_1 : w3.cell? ⟨gb114, 1, none⟩ = some (.string a0_1) := (blk_cell BK114.out 1).trans rfl
          have hcz9_2 : w3.cell? ⟨gb114, 2, none⟩ = some (.int .i64 a0_2) := (blk_cell BK114.out 2).trans rfl
          have hfz9_0 := blk_frozen BK114.out 0
          have hfz9_1 := blk_frozen BK114.out 1
          have hfz9_2 := blk_frozen BK114.out 2
          go_wp2
          go_meet
          case rel => exact ⟨_, (true), (by first | rfl | (simp; done) | (simp [*]; done)), H', ⟨by first | omega | exact Nat.le_refl _⟩, ⟨by (with_reducible repeat (first | refine blk_drewN ?_ _ | refine blk_drew ?_ | refine blk_alloc ?_ _)); exact BK114.out⟩, ⟨by repeat (first | (with_reducible first | exact HB.out | apply below_alloc | apply pw_below_drewN | apply below_drew1 | refine below_set ?_ GE114.out) | exact HB.out)⟩⟩
        · rw [if_neg c8] at H
          have c8b0 : decide (a0_2 < 0) = false := decide_eq_false c8
          clear c8
          have H' := Aside0.mk H
          clear H
          have hcz10_0 : w3.cell? ⟨gb114, 0, none⟩ = some (.int .i64 a0_0) := (blk_cell BK114.out 0).trans rfl
          have hcz10_1 : w3.cell? ⟨gb114, 1, none⟩ = some (.string a0_1) := (blk_cell BK114.out 1).trans rfl
          have hcz10_2 : w3.cell? ⟨gb114, 2, none⟩ = some (.int .i64 a0_2) := (blk_cell BK114.out 2).trans rfl
          have hfz10_0 := blk_frozen BK114.out 0
          have hfz10_1 := blk_frozen BK114.out 1
          have hfz10_2 := blk_frozen BK114.out 2
          go_wp2
          go_meet
          case rel => exact ⟨_, (decide (a0_2 > 65535)), (by first | rfl | (simp; done) | (simp [*]; done)), H', ⟨by first | omega | exact Nat.le_refl _⟩, ⟨by (with_reducible repeat (first | refine blk_drewN ?_ _ | refine blk_drew ?_ | refine blk_alloc ?_ _)); exact BK114.out⟩, ⟨by repeat (first | (with_reducible first | exact HB.out | apply below_alloc | apply pw_below_drewN | apply below_drew1 | refine below_set ?_ GE114.out) | exact HB.out)⟩⟩
  case rest =>
    clear HC2
    try clear c2
    try clear p2
    try clear c4
    try clear c4b0
    try clear c6
    try clear c6b0
    try clear c8
    try clear c8b0
    try clear hcz10_0
    try clear hcz10_1
    try clear hcz10_2
    try clear hcz5_0
    try clear hcz5_1
    try clear hcz5_2
    try clear hcz7_0
    try clear hcz7_1
    try clear hcz7_2
    try clear hcz9_0
    try clear hcz9_1
    try clear hcz9_2
    try clear hfz10_0
    try clear hfz10_1
    try clear hfz10_2
    try clear hfz5_0
    try clear hfz5_1
    try clear hfz5_2
    try clear hfz7_0
    try clear hfz7_1
    try clear hfz7_2
    try clear hfz9_0
    try clear hfz9_1
    try clear hfz9_2
    obtain ⟨kq, x20_1, rfl, HA, HJ1, BK114, HB⟩ := hcut
    cases kq with
    | zero => exact absurd HA.out (by simp [asmexpr_valid.j0])
    | succ kj1 =>
      have H := HA.out
      clear HA
      simp only [asmexpr_valid.j0] at H
      by_cases c11 : x20_1 = true
      · subst c11
        have H1 : (some false) = some r := by rw [if_pos rfl] at H; exact H
        clear H
        have H := H1
        clear H1
        obtain rfl := Option.some.inj H
        go_wp2
        go_ret
        exact ⟨by first | rfl | (simp [errW_none, errW_some] <;> rfl) | (simp [*, errW_none, errW_some] <;> rfl), by repeat (first | (with_reducible first | exact HB.out | apply below_alloc | apply pw_below_drewN | apply below_drew1 | refine below_set ?_ GE114.out) | exact HB.out)⟩
      · replace c11 := Bool.eq_false_iff.mpr c11
        subst c11
        have H1 : (if a0_0 = 4 then ((asmlex_Name.f kj1 a0_1).bind fun t115 => (some t115)) else (some (a0_1.toList == ([] : List UInt8)))) = some r := by rw [if_neg (show ¬ (false = true) by decide)] at H; exact H
        clear H
        have H := H1
        clear H1
        by_cases c12 : a0_0 = 4
        · rw [if_pos c12] at H
          have c12b0 : (a0_0 == 4) = true := beq_iff_eq.mpr c12
          have c12b1 : (a0_0 != 4) = false := bne_eq_false_iff_eq.mpr c12
          clear c12
          replace H := Option.bind_eq_some_iff.mp H
          obtain ⟨t115, A130, H⟩ := H
          replace H : (some t115) = some r := H
          have A13 := Aside0.mk A130
          clear A130
          obtain rfl := Option.some.inj H
          have hcz14_0 : wc.cell? ⟨gb114, 0, none⟩ = some (.int .i64 a0_0) := (blk_cell BK114.out 0).trans rfl
          have hcz14_1 : wc.cell? ⟨gb114, 1, none⟩ = some (.string a0_1) := (blk_cell BK114.out 1).trans rfl
          have hcz14_2 : wc.cell? ⟨gb114, 2, none⟩ = some (.int .i64 a0_2) := (blk_cell BK114.out 2).trans rfl
          have hfz14_0 := blk_frozen BK114.out 0
          have hfz14_1 := blk_frozen BK114.out 1
          have hfz14_2 := blk_frozen BK114.out 2
          go_wp2_with (first | ((with_reducible refine gate_callee (f := 33) rfl ?_); refine goesL_ (some 26) rfl rfl Try.func33 (by kernel_rfl) rfl #[.string a0_1] rfl (by (try simp only [List.map_toArray, List.map_cons, List.map_nil]); first | done | rfl | (simp only [List.length_drop, List.length_take]; rfl)) ?_; (with_reducible refine (asmlex_Name.calls kj1 a0_1 t115 _ A13.out).mono ?_); rintro e w15 ⟨rfl, hb⟩; refine ⟨_, rfl, ?_⟩; have n0_ := Aside0.mk (blk_below (g := gb114) (o := .cells #[.int .i64 a0_0, .string a0_1, .int .i64 a0_2] 24 (0, 0)) (by (with_reducible repeat (first | refine blk_drewN ?_ _ | refine blk_drew ?_ | refine blk_alloc ?_ _)); exact BK114.out) hb); have n1_ := Aside0.mk (below_step (by repeat (first | (with_reducible first | exact HB.out | apply below_alloc | apply pw_below_drewN | apply below_drew1 | refine below_set ?_ GE114.out) | exact HB.out)) hb); clear BK114; clear HB; have BK114 := n0_; have HB := n1_; clear n0_ n1_; (try clear hb); (try clear hb2); (try clear hk); (try clear hi)))
          go_ret
          exact ⟨by first | rfl | (simp [errW_none, errW_some] <;> rfl) | (simp [*, errW_none, errW_some] <;> rfl), by repeat (first | (with_reducible first | exact HB.out | apply below_alloc | apply pw_below_drewN | apply below_drew1 | refine below_set ?_ GE114.out) | exact HB.out)⟩
        · rw [if_neg c12] at H
          have c12b0 : (a0_0 == 4) = false := beq_eq_false_iff_ne.mpr c12
          have c12b1 : (a0_0 != 4) = true := bne_iff_ne.mpr c12
          obtain rfl := Option.some.inj H
          have hcz16_0 : wc.cell? ⟨gb114, 0, none⟩ = some (.int .i64 a0_0) := (blk_cell BK114.out 0).trans rfl
          have hcz16_1 : wc.cell? ⟨gb114, 1, none⟩ = some (.string a0_1) := (blk_cell BK114.out 1).trans rfl
          have hcz16_2 : wc.cell? ⟨gb114, 2, none⟩ = some (.int .i64 a0_2) := (blk_cell BK114.out 2).trans rfl
          have hfz16_0 := blk_frozen BK114.out 0
          have hfz16_1 := blk_frozen BK114.out 1
          have hfz16_2 := blk_frozen BK114.out 2
          go_wp2
          go_ret
          exact ⟨by first | rfl | (simp [errW_none, errW_some] <;> rfl) | (simp [*, errW_none, errW_some] <;> rfl), by repeat (first | (with_reducible first | exact HB.out | apply below_alloc | apply pw_below_drewN | apply below_drew1 | refine below_set ?_ GE114.out) | exact HB.out)⟩
/-! ### asmexpr_Binary: function 23 -/
def asmexpr_Binary.f (a0 : ByteArray) (a1_0 : Int) (a1_1 : ByteArray) (a1_2 : Int) (a2_0 : Int) (a2_1 : ByteArray) (a2_2 : Int) : Option (Int × ByteArray × Int × Int) :=
  if a1_1.size ≤ 1000 ∧ a2_1.size ≤ 1000 then some ((binS a0 (a1_0, a1_1, a1_2) (a2_0, a2_1, a2_2)).1.1, (binS a0 (a1_0, a1_1, a1_2) (a2_0, a2_1, a2_2)).1.2.1, (binS a0 (a1_0, a1_1, a1_2) (a2_0, a2_1, a2_2)).1.2.2, (binS a0 (a1_0, a1_1, a1_2) (a2_0, a2_1, a2_2)).2) else none
theorem valid_f (c : Int) (s : ByteArray) (n : Int) (hs : s.size ≤ 1000) : asmexpr_valid.f 3 c s n = some (validS c s n) := by
  unfold asmexpr_valid.f validS
  have hj : ∀ b, asmexpr_valid.j0 3 b c s n = if b = true then some false else if c = 4 then some (nameS s) else some (s.toList == ([] : List UInt8)) := fun b => by
    have hn : asmlex_Name.f 2 s = some (nameS s) := name_f 1 s (by omega)
    show asmexpr_valid.j0 (2 + 1) b c s n = _
    rw [asmexpr_valid.j0, hn]; rfl
  rw [hj, hj]
  by_cases h1 : c < 0
  · simp [h1]
  by_cases h2 : 4 < c
  · simp [h1, h2]
  by_cases h3 : n < 0
  · simp [h1, h2, h3]
  by_cases h4 : 65535 < n
  · simp [h1, h2, h3, h4]
  by_cases h5 : c = 4 <;> simp [h1, h2, h3, h4, h5, sIs]
theorem valid_c : ValidC := fun c s n w hs => asmexpr_valid.calls 3 c s n _ w (valid_f c s n hs)
theorem asmexpr_Binary.calls (a0 : ByteArray) (a1_0 : Int) (a1_1 : ByteArray) (a1_2 : Int) (a2_0 : Int) (a2_1 : ByteArray) (a2_2 : Int) (r1 : Int) (r2 : ByteArray) (r3 : Int) (r4 : Int) (w : World) (h : asmexpr_Binary.f a0 a1_0 a1_1 a1_2 a2_0 a2_1 a2_2 = some (r1, r2, r3, r4)) :
    Calls Try.prog 23 #[.string a0, .agg #[.int .i64 a1_0, .string a1_1, .int .i64 a1_2], .agg #[.int .i64 a2_0, .string a2_1, .int .i64 a2_2]] w fun e w' => e = .returned (.tuple #[.agg #[.int .i64 r1, .string r2, .int .i64 r3], .int .i64 r4]) ∧ Below w.heap.size w w' := binary_own valid_c a0 a1_0 a1_1 a1_2 a2_0 a2_1 a2_2 r1 r2 r3 r4 w h
/-! ### asmexpr_Add: function 19 -/
def asmexpr_Add.f (a0_0 : Int) (a0_1 : ByteArray) (a0_2 : Int) (a1_0 : Int) (a1_1 : ByteArray) (a1_2 : Int) : Option (Int × ByteArray × Int × Int) := (asmexpr_Binary.f (⟨#[43]⟩ : ByteArray) a0_0 a0_1 a0_2 a1_0 a1_1 a1_2).bind fun bt120 => (some (bt120.1, bt120.2.1, bt120.2.2.1, bt120.2.2.2))
set_option maxHeartbeats 8000000 in
set_option maxRecDepth 100000 in
theorem asmexpr_Add.calls (a0_0 : Int) (a0_1 : ByteArray) (a0_2 : Int) (a1_0 : Int) (a1_1 : ByteArray) (a1_2 : Int) (r1 : Int) (r2 : ByteArray) (r3 : Int) (r4 : Int) (w : World) (h : asmexpr_Add.f a0_0 a0_1 a0_2 a1_0 a1_1 a1_2 = some (r1, r2, r3, r4)) :
    Calls Try.prog 19 #[.agg #[.int .i64 a0_0, .string a0_1, .int .i64 a0_2], .agg #[.int .i64 a1_0, .string a1_1, .int .i64 a1_2]] w fun e w' => e = .returned (.tuple #[.agg #[.int .i64 r1, .string r2, .int .i64 r3], .int .i64 r4]) ∧ Below w.heap.size w w' := by
  have hu24 := Try.underlying24
  have HB := Aside0.mk (Below.refl w.heap.size w)
  have H : ((asmexpr_Binary.f (⟨#[43]⟩ : ByteArray) a0_0 a0_1 a0_2 a1_0 a1_1 a1_2).bind fun bt120 => (some (bt120.1, bt120.2.1, bt120.2.2.1, bt120.2.2.2))) = some (r1, r2, r3, r4) := h
  clear h
  replace H := Option.bind_eq_some_iff.mp H
  obtain ⟨⟨t120, t121, t122, t123⟩, A30, H⟩ := H
  replace H : (some (t120, t121, t122, t123)) = some (r1, r2, r3, r4) := H
  have A3 := Aside0.mk A30
  clear A30
  simp only [Option.some.injEq, Prod.mk.injEq] at H
  obtain ⟨rfl, rfl, rfl, rfl⟩ := H
  go_enter Try.func19, Try.ntmps19
  go_wp2_with (first | ((with_reducible refine gate_dst (N := 2) rfl ?_); refine box_event ?hg (N := 2) ?hd (cs := #[.int .i64 a0_0, .string a0_1, .int .i64 a0_2]) (t := 24) ?hr ?_; (case hd => rfl); (case hg => rfl); (case hr => first | (go_simp; done) | (go_simp; rfl)); intro gb117 hg w4 hbox hb; have n0_ := Aside0.mk (below_step (by repeat (first | (with_reducible first | exact HB.out | apply below_alloc | apply pw_below_drewN | apply below_drew1) | exact HB.out)) hb); have n1_ := Aside0.mk (hbox); have n2_ := Aside0.mk ((by rw [hg]; exact (below_size (by repeat (first | (with_reducible first | exact HB.out | apply below_alloc | apply pw_below_drewN | apply below_drew1) | exact HB.out))) : w.heap.size ≤ gb117)); have n3_ := Aside0.mk ((by rw [hg]; exact (below_size (by repeat (first | (with_reducible first | exact HB.out | apply below_alloc | apply pw_below_drewN | apply below_drew1) | exact HB.out))) : w.heap.size ≤ gb117)); clear HB; have HB := n0_; have BK117 := n1_; have GW117 := n2_; have GE117 := n3_; clear n0_ n1_ n2_ n3_; clear hb hbox hg) | ((with_reducible refine gate_dst (N := 3) rfl ?_); refine box_event ?hg (N := 3) ?hd (cs := #[.int .i64 a1_0, .string a1_1, .int .i64 a1_2]) (t := 24) ?hr ?_; (case hd => rfl); (case hg => rfl); (case hr => first | (go_simp; done) | (go_simp; rfl)); intro gb118 hg w5 hbox hb; have n0_ := Aside0.mk (blk_below (g := gb117) (o := .cells #[.int .i64 a0_0, .string a0_1, .int .i64 a0_2] 24 (0, 0)) (by (with_reducible repeat (first | refine blk_drewN ?_ _ | refine blk_drew ?_ | refine blk_alloc ?_ _)); exact BK117.out) hb); have n1_ := Aside0.mk (below_step (by repeat (first | (with_reducible first | exact HB.out | apply below_alloc | apply pw_below_drewN | apply below_drew1 | refine below_set ?_ GE117.out) | exact HB.out)) hb); have n2_ := Aside0.mk (hbox); have n3_ := Aside0.mk ((by rw [hg]; exact (below_size (by repeat (first | (with_reducible first | exact HB.out | apply below_alloc | apply pw_below_drewN | apply below_drew1 | refine below_set ?_ GE117.out) | exact HB.out))) : w.heap.size ≤ gb118)); have n4_ := Aside0.mk ((by rw [hg]; exact (below_size (by repeat (first | (with_reducible first | exact HB.out | apply below_alloc | apply pw_below_drewN | apply below_drew1 | refine below_set ?_ GE117.out) | exact HB.out))) : w.heap.size ≤ gb118)); have n5_ := Aside0.mk ((by rw [hg]; exact Nat.ne_of_lt (blk_lt (g := gb117) (o := .cells #[.int .i64 a0_0, .string a0_1, .int .i64 a0_2] 24 (0, 0)) (by (with_reducible repeat (first | refine blk_drewN ?_ _ | refine blk_drew ?_ | refine blk_alloc ?_ _)); exact BK117.out)) : gb117 ≠ gb118)); have n6_ := Aside0.mk ((by rw [hg]; exact Nat.ne_of_gt (blk_lt (g := gb117) (o := .cells #[.int .i64 a0_0, .string a0_1, .int .i64 a0_2] 24 (0, 0)) (by (with_reducible repeat (first | refine blk_drewN ?_ _ | refine blk_drew ?_ | refine blk_alloc ?_ _)); exact BK117.out)) : gb118 ≠ gb117)); clear BK117; clear HB; have BK117 := n0_; have HB := n1_; have BK118 := n2_; have GW118 := n3_; have GE118 := n4_; have NB117_118 := n5_; have NB118_117 := n6_; clear n0_ n1_ n2_ n3_ n4_ n5_ n6_; clear hb hbox hg) | ((with_reducible refine gate_dst (N := 4) rfl ?_); refine box_event ?hg (N := 4) ?hd (cs := #[.int .i64 0, .string (⟨#[]⟩ : ByteArray), .int .i64 0]) (t := 24) ?hr ?_; (case hd => rfl); (case hg => rfl); (case hr => first | (go_simp; done) | (go_simp; rfl)); intro gb119 hg w6 hbox hb; have n0_ := Aside0.mk (blk_below (g := gb117) (o := .cells #[.int .i64 a0_0, .string a0_1, .int .i64 a0_2] 24 (0, 0)) (by (with_reducible repeat (first | refine blk_drewN ?_ _ | refine blk_drew ?_ | refine blk_alloc ?_ _)); exact BK117.out) hb); have n1_ := Aside0.mk (blk_below (g := gb118) (o := .cells #[.int .i64 a1_0, .string a1_1, .int .i64 a1_2] 24 (0, 0)) (by (with_reducible repeat (first | refine blk_drewN ?_ _ | refine blk_drew ?_ | refine blk_alloc ?_ _)); exact BK118.out) hb); have n2_ := Aside0.mk (below_step (by repeat (first | (with_reducible first | exact HB.out | apply below_alloc | apply pw_below_drewN | apply below_drew1 | refine below_set ?_ GE117.out | refine below_set ?_ GE118.out) | exact HB.out)) hb); have n3_ := Aside0.mk (hbox); have n4_ := Aside0.mk ((by rw [hg]; exact (below_size (by repeat (first | (with_reducible first | exact HB.out | apply below_alloc | apply pw_below_drewN | apply below_drew1 | refine below_set ?_ GE117.out | refine below_set ?_ GE118.out) | exact HB.out))) : w.heap.size ≤ gb119)); have n5_ := Aside0.mk ((by rw [hg]; exact (below_size (by repeat (first | (with_reducible first | exact HB.out | apply below_alloc | apply pw_below_drewN | apply below_drew1 | refine below_set ?_ GE117.out | refine below_set ?_ GE118.out) | exact HB.out))) : w.heap.size ≤ gb119)); have n6_ := Aside0.mk ((by rw [hg]; exact Nat.ne_of_lt (blk_lt (g := gb117) (o := .cells #[.int .i64 a0_0, .string a0_1, .int .i64 a0_2] 24 (0, 0)) (by (with_reducible repeat (first | refine blk_drewN ?_ _ | refine blk_drew ?_ | refine blk_alloc ?_ _)); exact BK117.out)) : gb117 ≠ gb119)); have n7_ := Aside0.mk ((by rw [hg]; exact Nat.ne_of_gt (blk_lt (g := gb117) (o := .cells #[.int .i64 a0_0, .string a0_1, .int .i64 a0_2] 24 (0, 0)) (by (with_reducible repeat (first | refine blk_drewN ?_ _ | refine blk_drew ?_ | refine blk_alloc ?_ _)); exact BK117.out)) : gb119 ≠ gb117)); have n8_ := Aside0.mk ((by rw [hg]; exact Nat.ne_of_lt (blk_lt (g := gb118) (o := .cells #[.int .i64 a1_0, .string a1_1, .int .i64 a1_2] 24 (0, 0)) (by (with_reducible repeat (first | refine blk_drewN ?_ _ | refine blk_drew ?_ | refine blk_alloc ?_ _)); exact BK118.out)) : gb118 ≠ gb119)); have n9_ := Aside0.mk ((by rw [hg]; exact Nat.ne_of_gt (blk_lt (g := gb118) (o := .cells #[.int .i64 a1_0, .string a1_1, .int .i64 a1_2] 24 (0, 0)) (by (with_reducible repeat (first | refine blk_drewN ?_ _ | refine blk_drew ?_ | refine blk_alloc ?_ _)); exact BK118.out)) : gb119 ≠ gb118)); clear BK117; clear BK118; clear HB; have BK117 := n0_; have BK118 := n1_; have HB := n2_; have BK119 := n3_; have GW119 := n4_; have GE119 := n5_; have NB117_119 := n6_; have NB119_117 := n7_; have NB118_119 := n8_; have NB119_118 := n9_; clear n0_ n1_ n2_ n3_ n4_ n5_ n6_ n7_ n8_ n9_; clear hb hbox hg; have hnb7 := NB117_118.out; have hnc7 := NB118_117.out; have hnb8 := NB117_119.out; have hnc8 := NB119_117.out; have hcz9_0 : w6.cell? ⟨gb117, 0, none⟩ = some (.int .i64 a0_0) := (blk_cell BK117.out 0).trans rfl; have hcz9_1 : w6.cell? ⟨gb117, 1, none⟩ = some (.string a0_1) := (blk_cell BK117.out 1).trans rfl; have hcz9_2 : w6.cell? ⟨gb117, 2, none⟩ = some (.int .i64 a0_2) := (blk_cell BK117.out 2).trans rfl; have hfz9_0 := blk_frozen BK117.out 0; have hfz9_1 := blk_frozen BK117.out 1; have hfz9_2 := blk_frozen BK117.out 2; have hnb10 := NB118_119.out; have hnc10 := NB119_118.out; have hcz11_0 : w6.cell? ⟨gb118, 0, none⟩ = some (.int .i64 a1_0) := (blk_cell BK118.out 0).trans rfl; have hcz11_1 : w6.cell? ⟨gb118, 1, none⟩ = some (.string a1_1) := (blk_cell BK118.out 1).trans rfl; have hcz11_2 : w6.cell? ⟨gb118, 2, none⟩ = some (.int .i64 a1_2) := (blk_cell BK118.out 2).trans rfl; have hfz11_0 := blk_frozen BK118.out 0; have hfz11_1 := blk_frozen BK118.out 1; have hfz11_2 := blk_frozen BK118.out 2) | ((with_reducible refine gate_callee (f := 23) rfl ?_); refine goesL_ (some 8) rfl rfl Try.func23 (by kernel_rfl) rfl #[.string (⟨#[43]⟩ : ByteArray), .agg #[.int .i64 a0_0, .string a0_1, .int .i64 a0_2], .agg #[.int .i64 a1_0, .string a1_1, .int .i64 a1_2]] rfl (by (try simp only [List.map_toArray, List.map_cons, List.map_nil]); first | done | rfl | (simp only [List.length_drop, List.length_take]; rfl)) ?_; (with_reducible refine (asmexpr_Binary.calls (⟨#[43]⟩ : ByteArray) a0_0 a0_1 a0_2 a1_0 a1_1 a1_2 t120 t121 t122 t123 _ A3.out).mono ?_); rintro e w12 ⟨rfl, hb⟩; refine ⟨_, rfl, ?_⟩; have n0_ := Aside0.mk (blk_below (g := gb117) (o := .cells #[.int .i64 a0_0, .string a0_1, .int .i64 a0_2] 24 (0, 0)) (by (with_reducible repeat (first | refine blk_drewN ?_ _ | refine blk_drew ?_ | refine blk_alloc ?_ _)); exact BK117.out) hb); have n1_ := Aside0.mk (blk_below (g := gb118) (o := .cells #[.int .i64 a1_0, .string a1_1, .int .i64 a1_2] 24 (0, 0)) (by (with_reducible repeat (first | refine blk_drewN ?_ _ | refine blk_drew ?_ | refine blk_alloc ?_ _)); exact BK118.out) hb); have n2_ := Aside0.mk (blk_below (g := gb119) (o := .cells #[.int .i64 0, .string (⟨#[]⟩ : ByteArray), .int .i64 0] 24 (0, 0)) (by (with_reducible repeat (first | refine blk_drewN ?_ _ | refine blk_drew ?_ | refine blk_alloc ?_ _)); exact BK119.out) hb); have n3_ := Aside0.mk (below_step (by repeat (first | (with_reducible first | exact HB.out | apply below_alloc | apply pw_below_drewN | apply below_drew1 | refine below_set ?_ GE117.out | refine below_set ?_ GE118.out | refine below_set ?_ GE119.out) | exact HB.out)) hb); clear BK117; clear BK118; clear BK119; clear HB; have BK117 := n0_; have BK118 := n1_; have BK119 := n2_; have HB := n3_; clear n0_ n1_ n2_ n3_; (try clear hb); (try clear hb2); (try clear hk); (try clear hi); have hcz13_0 : w12.cell? ⟨gb119, 0, none⟩ = some (.int .i64 0) := (blk_cell BK119.out 0).trans rfl; have hcz13_1 : w12.cell? ⟨gb119, 1, none⟩ = some (.string (⟨#[]⟩ : ByteArray)) := (blk_cell BK119.out 1).trans rfl; have hcz13_2 : w12.cell? ⟨gb119, 2, none⟩ = some (.int .i64 0) := (blk_cell BK119.out 2).trans rfl; have hfz13_0 := blk_frozen BK119.out 0; have hfz13_1 := blk_frozen BK119.out 1; have hfz13_2 := blk_frozen BK119.out 2))
  refine bodyPost_ret (results_ct rfl _ _ gb119 24 #[.int .i64 t120, .string t121, .int .i64 t122] (0, 0) _ rfl (by (with_reducible repeat (first | refine blk_drewN ?_ _ | refine blk_drew ?_ | refine blk_alloc ?_ _)); refine blk_put (cs := #[.int .i64 t120, .string t121, .int .i64 0]) ?_ 2 _ rfl; (with_reducible repeat (first | refine blk_drewN ?_ _ | refine blk_drew ?_ | refine blk_alloc ?_ _)); refine blk_put (cs := #[.int .i64 t120, .string (⟨#[]⟩ : ByteArray), .int .i64 0]) ?_ 1 _ rfl; (with_reducible repeat (first | refine blk_drewN ?_ _ | refine blk_drew ?_ | refine blk_alloc ?_ _)); refine blk_put (cs := #[.int .i64 0, .string (⟨#[]⟩ : ByteArray), .int .i64 0]) ?_ 0 _ rfl; (with_reducible repeat (first | refine blk_drewN ?_ _ | refine blk_drew ?_ | refine blk_alloc ?_ _)); exact BK119.out) Try.underlying24 rfl (by kernel_rfl)) rfl ?_
  exact ⟨by first | rfl | (simp [errW_none, errW_some] <;> rfl) | (simp [*, errW_none, errW_some] <;> rfl), by repeat (first | (with_reducible first | exact HB.out | apply below_alloc | apply pw_below_drewN | apply below_drew1 | refine below_set ?_ GE117.out | refine below_set ?_ GE118.out | refine below_set ?_ GE119.out) | exact HB.out)⟩
end Go.Proofs.Ytpinoobgnnlccaa.A

/- Eval: its contract. Conditions: at most 1000 tokens and symbols, texts of at most 1000 bytes. -/
namespace Go.Proofs.Ytpinoobgnnlccaa.A
open Go Go.RowKit Go.Proofs.YtpinoobgnnlccaaW.PrintWords Go.Proofs.YtpinoobgnnlccaaW.PrintLast Go.Proofs.YtpinoobgnnlccaaW.PrintMore
set_option linter.unusedSimpArgs false
set_option linter.unusedVariables false
section
variable (A0 : Option Addr) (c0 : Nat) (L : List S38) (x1 : Int) (A2 : Option Addr) (c2 : Nat) (S : List S44) (h0 : Int) (h1 : ByteArray) (h2 : Int)
theorem ev_a (w : World) (h : x1 < 0 ∨ (L.length : Int) < x1) : Calls Try.prog 11 #[.slice A0 L.length c0, .int .i64 x1, .slice A2 S.length c2, .agg #[.int .i64 h0, .string h1, .int .i64 h2]] w fun e w' => e = .returned (.tuple #[.agg #[.int .i64 0, .string ⟨#[]⟩, .int .i64 0], .int .i64 0, .int .i64 1]) ∧ Below w.heap.size w w' := by
  by_cases h3 : x1 < 0
  · have hd : decide (x1 < 0) = true := decide_eq_true h3
    clear h h3
    go_enter Try.func11, Try.ntmps11
    go_wp2_with fail
    exact bodyPost_ret (v := .tuple #[.agg #[.int .i64 0, .string ⟨#[]⟩, .int .i64 0], .int .i64 0, .int .i64 1]) (by simp [results, Try.results11, go_sem]) rfl ⟨rfl, below_a (below_a (Below.refl w.heap.size w) _) _⟩
  · have hd : decide (x1 < 0) = false := decide_eq_false h3
    have hd2 : decide ((L.length : Int) < x1) = true := decide_eq_true (by omega)
    clear h h3
    go_enter Try.func11, Try.ntmps11
    go_wp2_with fail
    exact bodyPost_ret (v := .tuple #[.agg #[.int .i64 0, .string ⟨#[]⟩, .int .i64 0], .int .i64 0, .int .i64 1]) (by simp [results, Try.results11, go_sem]) rfl ⟨rfl, below_a (below_a (Below.refl w.heap.size w) _) _⟩
theorem ev_b (w : World) (g1 : ¬ x1 < 0) (g2 : ¬ (L.length : Int) < x1) (hs : h1.size ≤ 1000) (hv : validS h0 h1 h2 = false) : Calls Try.prog 11 #[.slice A0 L.length c0, .int .i64 x1, .slice A2 S.length c2, .agg #[.int .i64 h0, .string h1, .int .i64 h2]] w fun e w' => e = .returned (.tuple #[.agg #[.int .i64 0, .string ⟨#[]⟩, .int .i64 0], .int .i64 0, .int .i64 1]) ∧ Below w.heap.size w w' := by
  have hd : decide (x1 < 0) = false := decide_eq_false g1
  have hd2 : decide ((L.length : Int) < x1) = false := decide_eq_false g2
  have HV := hidI hv
  clear g1 g2 hv
  have hR0 := RB.new (w.alloc (.cells #[.int .i64 h0, .string h1, .int .i64 h2] 24)) 24 #[.int .i64 0, .string ⟨#[]⟩, .int .i64 0]
  rw [size1] at hR0
  have HB0 := hidI (below_a (below_a (Below.refl w.heap.size w) (.cells #[.int .i64 h0, .string h1, .int .i64 h2] 24)) (.cells #[.int .i64 0, .string ⟨#[]⟩, .int .i64 0] 24))
  go_enter Try.func11, Try.ntmps11
  go_wp2_with (first
    | (go_at_call 25; refine (valid_c _ _ _ _ hs).mono ?_; rintro e w1 ⟨he, hb⟩; rw [HV.out] at he; subst he; have hR1 := hR0.below hb hR0.lt; have HB1 := hidI (HB0.out.trans (hb.mono HB0.out.size)); clear hb HB0 hR0)
    | ((with_reducible refine g_store 24 ?_ rfl); refine st_storeR 24 (by rfl) rfl rfl rfl hR1 rfl info24 (by simp [Value.oneCell']) ?_; intro w2 hR2 hu; have HB2 := hidI (HB1.out.trans (hu.below (by omega))); clear hR1 HB1 hu))
  exact bodyPost_ret (results_ctt rfl _ _ _ 24 #[.int .i64 0, .string ⟨#[]⟩, .int .i64 0] (0, 0) _ rfl hR2 Try.underlying24 rfl (by kernel_rfl)) rfl ⟨rfl, HB2.out⟩
theorem ev_c (hC : RdC 26 (rdE 0)) (w : World) (hr0 : Kd.C k38 w A0 L.length L) (hr2 : Kd.C k44 w A2 S.length S) (g1 : ¬ x1 < 0) (g2 : ¬ (L.length : Int) < x1) (hs : h1.size ≤ 1000) (hv : validS h0 h1 h2 = true)
    (r1 : Int) (r2 : ByteArray) (r3 r4 r5 r6 : Int) (r7 : ByteArray) (r8 : Int) (h4 : r4 ≠ 0) (hE : rdE 0 L x1 S h0 h1 h2 0 = some (r1, r2, r3, r4, r5, r6, r7, r8)) : Calls Try.prog 11 #[.slice A0 L.length c0, .int .i64 x1, .slice A2 S.length c2, .agg #[.int .i64 h0, .string h1, .int .i64 h2]] w fun e w' => e = .returned (.tuple #[.agg #[.int .i64 0, .string ⟨#[]⟩, .int .i64 0], .int .i64 0, .int .i64 r4]) ∧ Below w.heap.size w w' := by
  have hd : decide (x1 < 0) = false := decide_eq_false g1
  have hd2 : decide ((L.length : Int) < x1) = false := decide_eq_false g2
  have HV := hidI hv
  have hb4 : (r4 != 0) = true := by simpa using h4
  clear h4
  have HCX := hidI hC
  have HE := hidI hE
  have HR0 := hidI hr0
  have HR2 := hidI hr2
  clear g1 g2 hv hC hE hr0 hr2
  have hA0 := (RB.new w 24 #[.int .i64 h0, .string h1, .int .i64 h2]).alloc (.cells #[.int .i64 0, .string ⟨#[]⟩, .int .i64 0] 24)
  have hR0 := RB.new (w.alloc (.cells #[.int .i64 h0, .string h1, .int .i64 h2] 24)) 24 #[.int .i64 0, .string ⟨#[]⟩, .int .i64 0]
  rw [size1] at hR0
  have HB0 := hidI (below_a (below_a (Below.refl w.heap.size w) (.cells #[.int .i64 h0, .string h1, .int .i64 h2] 24)) (.cells #[.int .i64 0, .string ⟨#[]⟩, .int .i64 0] 24))
  go_enter Try.func11, Try.ntmps11
  go_wp2_with (first
    | (go_at_call 25; refine (valid_c _ _ _ _ hs).mono ?_; rintro e w1 ⟨he, hb⟩; rw [HV.out] at he; subst he; have hA1 := hA0.below hb hA0.lt; have hR1 := hR0.below hb hR0.lt; have HB1 := hidI (HB0.out.trans (hb.mono HB0.out.size)); clear hb HB0 hR0 hA0)
    | ((with_reducible refine g_load 24 ?_ rfl); have _t := HB0; refine st_loadR 24 (by rfl) rfl rfl hA0 Try.underlying24 rfl info24 ?_)
    | ((with_reducible refine g_load 24 ?_ rfl); have _t := HB1; refine st_loadR 24 (by rfl) rfl rfl hA1 Try.underlying24 rfl info24 ?_))
  have hI := IsS53.new w w1 A0 c0 A2 c2 L x1 S h0 h1 h2 HB1.out HR0.out HR2.out
  have hBn := below_a HB1.out (.cells #[.slice A0 L.length c0, .int .i64 x1, .slice A2 S.length c2, .int .i64 h0, .string h1, .int .i64 h2] 53)
  refine (HCX.out w1.heap.size L x1 S h0 h1 h2 0 r1 r2 r3 r4 r5 r6 r7 r8 w _ hI hBn HE.out).mono ?_
  rintro e w2 ⟨rfl, hi, hb, hk⟩
  have hne : w.heap.size + 1 ≠ w1.heap.size := Nat.ne_of_lt hR1.lt
  have hR2 : RB w2 (w.heap.size + 1) 24 #[.int .i64 0, .string ⟨#[]⟩, .int .i64 0] := hk.blk (hR1.alloc _) hne (by simp)
  have HB2 := hidI hb
  have hlt2 : w.heap.size + 1 < w2.heap.size := hR2.lt
  obtain ⟨ASz, cSz, ASy, cSy, HG, hg, _, _⟩ := hi
  have HGX := hidI HG
  clear hI hBn hb hk hA1 hR1 HB1 HG hg _t
  go_wp2_with ((with_reducible refine g_store 24 ?_ rfl); have _t := HB2; refine st_storeR 24 (by rfl) rfl rfl rfl (hR2.alloc _) rfl info24 (by simp [Value.oneCell']) ?_; intro w3 hR3 hu; have HB3 := hidI ((below_a HB2.out _).trans (hu.below (by omega))); clear hR2 HB2 hu)
  exact bodyPost_ret (results_ctt rfl _ _ _ 24 #[.int .i64 0, .string ⟨#[]⟩, .int .i64 0] (0, 0) _ rfl hR3 Try.underlying24 rfl (by kernel_rfl)) rfl ⟨rfl, HB3.out⟩
theorem ev_d (hC : RdC 26 (rdE 0)) (w : World) (hr0 : Kd.C k38 w A0 L.length L) (hr2 : Kd.C k44 w A2 S.length S) (g1 : ¬ x1 < 0) (g2 : ¬ (L.length : Int) < x1) (hs : h1.size ≤ 1000) (hv : validS h0 h1 h2 = true)
    (r1 : Int) (r2 : ByteArray) (r3 r4 r5 r6 : Int) (r7 : ByteArray) (r8 : Int) (h4 : r4 = 0) (hE : rdE 0 L x1 S h0 h1 h2 0 = some (r1, r2, r3, r4, r5, r6, r7, r8)) : Calls Try.prog 11 #[.slice A0 L.length c0, .int .i64 x1, .slice A2 S.length c2, .agg #[.int .i64 h0, .string h1, .int .i64 h2]] w fun e w' => e = .returned (.tuple #[.agg #[.int .i64 r1, .string r2, .int .i64 r3], .int .i64 r5, .int .i64 0]) ∧ Below w.heap.size w w' := by
  have hd : decide (x1 < 0) = false := decide_eq_false g1
  have hd2 : decide ((L.length : Int) < x1) = false := decide_eq_false g2
  have HV := hidI hv
  have hb4 : (r4 != 0) = false := by simpa using h4
  clear h4
  have HCX := hidI hC
  have HE := hidI hE
  have HR0 := hidI hr0
  have HR2 := hidI hr2
  clear g1 g2 hv hC hE hr0 hr2
  have hA0 := (RB.new w 24 #[.int .i64 h0, .string h1, .int .i64 h2]).alloc (.cells #[.int .i64 0, .string ⟨#[]⟩, .int .i64 0] 24)
  have hR0 := RB.new (w.alloc (.cells #[.int .i64 h0, .string h1, .int .i64 h2] 24)) 24 #[.int .i64 0, .string ⟨#[]⟩, .int .i64 0]
  rw [size1] at hR0
  have HB0 := hidI (below_a (below_a (Below.refl w.heap.size w) (.cells #[.int .i64 h0, .string h1, .int .i64 h2] 24)) (.cells #[.int .i64 0, .string ⟨#[]⟩, .int .i64 0] 24))
  go_enter Try.func11, Try.ntmps11
  go_wp2_with (first
    | (go_at_call 25; refine (valid_c _ _ _ _ hs).mono ?_; rintro e w1 ⟨he, hb⟩; rw [HV.out] at he; subst he; have hA1 := hA0.below hb hA0.lt; have hR1 := hR0.below hb hR0.lt; have HB1 := hidI (HB0.out.trans (hb.mono HB0.out.size)); clear hb HB0 hR0 hA0)
    | ((with_reducible refine g_load 24 ?_ rfl); have _t := HB0; refine st_loadR 24 (by rfl) rfl rfl hA0 Try.underlying24 rfl info24 ?_)
    | ((with_reducible refine g_load 24 ?_ rfl); have _t := HB1; refine st_loadR 24 (by rfl) rfl rfl hA1 Try.underlying24 rfl info24 ?_))
  have hI := IsS53.new w w1 A0 c0 A2 c2 L x1 S h0 h1 h2 HB1.out HR0.out HR2.out
  have hBn := below_a HB1.out (.cells #[.slice A0 L.length c0, .int .i64 x1, .slice A2 S.length c2, .int .i64 h0, .string h1, .int .i64 h2] 53)
  refine (HCX.out w1.heap.size L x1 S h0 h1 h2 0 r1 r2 r3 r4 r5 r6 r7 r8 w _ hI hBn HE.out).mono ?_
  rintro e w2 ⟨rfl, hi, hb, hk⟩
  have hne : w.heap.size + 1 ≠ w1.heap.size := Nat.ne_of_lt hR1.lt
  have hR2 : RB w2 (w.heap.size + 1) 24 #[.int .i64 0, .string ⟨#[]⟩, .int .i64 0] := hk.blk (hR1.alloc _) hne (by simp)
  have HB2 := hidI hb
  have hlt2 : w.heap.size + 1 < w2.heap.size := hR2.lt
  obtain ⟨ASz, cSz, ASy, cSy, HG, hg, _, _⟩ := hi
  have HGX := hidI HG
  clear hI hBn hb hk hA1 hR1 HB1 HG hg _t
  go_wp2
  have hN := RB.new w2 54 #[.int .i64 r1, .string r2, .int .i64 r3]
  have hG : RB (w2.alloc (.cells #[.int .i64 r1, .string r2, .int .i64 r3] 54)) w1.heap.size 53 #[.slice ASz L.length cSz, .int .i64 r5, .slice ASy S.length cSy, .int .i64 r6, .string r7, .int .i64 r8] := RB.alloc (show RB w2 _ 53 _ from HGX.out) _
  have hRA := hR2.alloc (.cells #[.int .i64 r1, .string r2, .int .i64 r3] 54)
  have hBA := below_a HB2.out (.cells #[.int .i64 r1, .string r2, .int .i64 r3] 54)
  have hne2 : w2.heap.size ≠ w.heap.size + 1 := Nat.ne_of_gt hlt2
  have hne1 : w1.heap.size ≠ w.heap.size + 1 := Ne.symm hne
  refine start_ (n := 8) (S := fun w' => w'.cell? ⟨w2.heap.size, 0, none⟩ = some (.int .i64 r1) ∧ w'.cell? ⟨w2.heap.size, 1, none⟩ = some (.string r2) ∧ w'.cell? ⟨w2.heap.size, 2, none⟩ = some (.int .i64 r3) ∧ w'.cell? ⟨w1.heap.size, 1, none⟩ = some (.int .i64 r5)) (ds := []) #[false, false, false, false, false, false, false, false] (by kernel_rfl) rfl rfl ⟨hN.cell 0 rfl, hN.cell 1 rfl, hN.cell 2 rfl, hG.cell 1 rfl⟩ (fun hHeld => ?_)
  generalize hq_ : World.drew _ = wq at hHeld ⊢
  have hRq : RB wq (w.heap.size + 1) 24 #[.int .i64 0, .string ⟨#[]⟩, .int .i64 0] := by rw [← hq_]; exact hRA
  have HBq : Below w.heap.size w wq := by rw [← hq_]; exact below_drew1 hBA
  clear hN hG hRA hBA hq_ hR2 HB2 HGX
  have HBX := hidI HBq
  have hRX := hidI hRq
  clear HBq hRq
  refine pure_ (i := 1) (N := some 44) (v := ?_) (a' := ?_) #[false, true, false, false, false, false, false, false] rfl rfl (by kernel_rfl) (fun _ _ _ h => h) (Or.inl ⟨by rfl, ?_⟩) ?_ ?_
  rotate_left
  · intro w'
    go_simp
    with_reducible rfl
  rotate_left
  · simp only [Act.put, List.setIfInBounds_toArray, List.set_cons_zero, List.set_cons_succ, i64_w, i32_w]
    rfl
  refine pure_ (i := 2) (N := some 45) (v := ?_) (a' := ?_) #[false, true, true, false, false, false, false, false] rfl rfl (by kernel_rfl) (fun _ _ _ h => h) (Or.inl ⟨by rfl, ?_⟩) ?_ ?_
  rotate_left
  · intro w'
    go_simp
    with_reducible rfl
  rotate_left
  · simp only [Act.put, List.setIfInBounds_toArray, List.set_cons_zero, List.set_cons_succ, i64_w, i32_w]
    rfl
  refine pure_ (i := 3) (N := some 46) (v := ?_) (a' := ?_) #[false, true, true, true, false, false, false, false] rfl rfl (by kernel_rfl) (fun _ _ _ h => h) (Or.inl ⟨by rfl, ?_⟩) ?_ ?_
  rotate_left
  · intro w'
    go_simp
    with_reducible rfl
  rotate_left
  · simp only [Act.put, List.setIfInBounds_toArray, List.set_cons_zero, List.set_cons_succ, i64_w, i32_w]
    rfl
  refine take_ (i := 0) (N := some 43) (v := ?_) (a' := ?_) #[true, true, true, true, false, false, false, false] rfl rfl (by kernel_rfl) (fun _ _ _ h => h) (Or.inl ⟨by rfl, ?_⟩) hHeld ?_ ?_
  rotate_left
  · rintro w' ⟨s0, s1, s2, s3⟩
    go_simp
    with_reducible rfl
  rotate_left
  · simp only [Act.put, List.setIfInBounds_toArray, List.set_cons_zero, List.set_cons_succ, i64_w, i32_w]
    rfl
  refine take_ (i := 4) (N := some 47) (v := ?_) (a' := ?_) #[true, true, true, true, true, false, false, false] rfl rfl (by kernel_rfl) (fun _ _ _ h => h) (Or.inl ⟨by rfl, ?_⟩) hHeld ?_ ?_
  rotate_left
  · rintro w' ⟨s0, s1, s2, s3⟩
    go_simp
    with_reducible rfl
  rotate_left
  · simp only [Act.put, List.setIfInBounds_toArray, List.set_cons_zero, List.set_cons_succ, i64_w, i32_w]
    rfl
  refine one_ (i := 5) (N := none) #[true, true, true, true, true, true, false, false] rfl rfl (by kernel_rfl) (by decide) (fun K hK => ?_)
  have hs0 : wq.cell? ⟨w.heap.size + 1, 0, none⟩ = some (.int .i64 0) := hRX.out.cell 0 rfl
  have hf0 := blk_frozen (show wq.heap[w.heap.size + 1]? = some (.cells #[.int .i64 0, .string ⟨#[]⟩, .int .i64 0] 24 (0, 0)) from hRX.out) 0
  have hs1 : wq.cell? ⟨w.heap.size + 1, 1, none⟩ = some (.string ⟨#[]⟩) := hRX.out.cell 1 rfl
  have hf1 := blk_frozen (show wq.heap[w.heap.size + 1]? = some (.cells #[.int .i64 0, .string ⟨#[]⟩, .int .i64 0] 24 (0, 0)) from hRX.out) 1
  have hs2 : wq.cell? ⟨w.heap.size + 1, 2, none⟩ = some (.int .i64 0) := hRX.out.cell 2 rfl
  have hf2 := blk_frozen (show wq.heap[w.heap.size + 1]? = some (.cells #[.int .i64 0, .string ⟨#[]⟩, .int .i64 0] 24 (0, 0)) from hRX.out) 2
  refine skip_ (w1 := ?_) (by rfl) rfl ?_ ?_
  rotate_left
  · go_simp
    rfl
  refine hK.out _ _ ⟨(by (repeat refine (cell_far (p := ⟨w.heap.size + 1, _, none⟩) hne2 _).trans ?_); exact hHeld.1), (by (repeat refine (cell_far (p := ⟨w.heap.size + 1, _, none⟩) hne2 _).trans ?_); exact hHeld.2.1), (by (repeat refine (cell_far (p := ⟨w.heap.size + 1, _, none⟩) hne2 _).trans ?_); exact hHeld.2.2.1), (by (repeat refine (cell_far (p := ⟨w.heap.size + 1, _, none⟩) hne1 _).trans ?_); exact hHeld.2.2.2)⟩ (fun hHeld3 => ?_)
  clear hK K hHeld3
  refine pure_ (i := 6) (N := some 9) (v := ?_) (a' := ?_) #[true, true, true, true, true, true, true, false] rfl rfl (by kernel_rfl) (fun _ _ _ h => h) (Or.inl ⟨by rfl, ?_⟩) ?_ ?_
  rotate_left
  · intro w'
    go_simp
    with_reducible rfl
  rotate_left
  · simp only [Act.put, List.setIfInBounds_toArray, List.set_cons_zero, List.set_cons_succ, i64_w, i32_w]
    rfl
  refine pure_ (i := 7) (N := some 10) (v := ?_) (a' := ?_) #[true, true, true, true, true, true, true, true] rfl rfl (by kernel_rfl) (fun _ _ _ h => h) (Or.inl ⟨by rfl, ?_⟩) ?_ ?_
  rotate_left
  · intro w'
    go_simp
    with_reducible rfl
  rotate_left
  · simp only [Act.put, List.setIfInBounds_toArray, List.set_cons_zero, List.set_cons_succ, i64_w, i32_w]
    rfl
  refine done_ (by kernel_rfl) ?_
  go_wp2
  have hZ := blk_put (blk_put (blk_put (show wq.heap[w.heap.size + 1]? = some (.cells #[.int .i64 0, .string ⟨#[]⟩, .int .i64 0] 24 (0, 0)) from hRX.out) 0 (.int .i64 r1) rfl) 1 (.string r2) rfl) 2 (.int .i64 r3) rfl
  exact bodyPost_ret (results_ctt rfl _ _ _ 24 #[.int .i64 r1, .string r2, .int .i64 r3] (0, 0) _ rfl hZ Try.underlying24 rfl (by kernel_rfl)) rfl ⟨rfl, ((HBX.out.setCell (by simp) _).setCell (by simp) _).setCell (by simp) _⟩
end
end Go.Proofs.Ytpinoobgnnlccaa.A

/- The symbol at a place. -/
namespace Go.Proofs.Ytpinoobgnnlccaa.A
open Go Go.RowKit Go.Proofs.YtpinoobgnnlccaaW.PrintWords
set_option linter.unusedSimpArgs false
set_option linter.unusedVariables false
theorem sIs_nil (l : List UInt8) (h : l ≠ []) : sIs (⟨#[]⟩ : ByteArray) l = false := by
  unfold sIs; rw [ByteArray.toList_eq]; cases l with
  | nil => exact absurd rfl h
  | cons c r => rfl
theorem isOp_nil : isOp (⟨#[]⟩ : ByteArray) = false := by
  unfold isOp
  rw [sIs_nil _ (by simp), sIs_nil _ (by simp), sIs_nil _ (by simp), sIs_nil _ (by simp), sIs_nil _ (by simp), sIs_nil _ (by simp)]; rfl
section
variable {L : List S38} {S : List S44} {h : VV}
theorem sym_at {i : Nat} {l : List UInt8} (hl : l ≠ []) (hs : sIs (symS L i) l = true) : i < L.length ∧ (rd_T38 L i).f0 = 4 ∧ sIs (rd_T38 L i).f1 l = true := by
  unfold symS at hs
  by_cases c : i < L.length ∧ (rd_T38 L i).f0 = 4
  · rw [if_pos c] at hs; exact ⟨c.1, c.2, hs⟩
  · rw [if_neg c, sIs_nil l hl] at hs; cases hs
theorem op_at {i : Nat} (hs : isOp (symS L i) = true) : i < L.length ∧ (rd_T38 L i).f0 = 4 ∧ symS L i = (rd_T38 L i).f1 := by
  unfold symS at hs ⊢
  by_cases c : i < L.length ∧ (rd_T38 L i).f0 = 4
  · rw [if_pos c]; exact ⟨c.1, c.2, rfl⟩
  · rw [if_neg c, isOp_nil] at hs; cases hs
end
end Go.Proofs.Ytpinoobgnnlccaa.A

/- The reader's term and expression: their places stay within the tokens. No condition. -/
namespace Go.Proofs.Ytpinoobgnnlccaa.A
open Go Go.RowKit Go.Proofs.YtpinoobgnnlccaaW.PrintWords
set_option linter.unusedSimpArgs false
set_option linter.unusedVariables false
section
variable {L : List S38} {S : List S44} {h : VV}
def XOK (L : List S38) (tm : Nat → RR) : Prop := ∀ i, i ≤ L.length → (tm i).2.1 ≤ L.length ∧ ((tm i).2.2 = 0 → i < (tm i).2.1)
theorem atomX_ok : XOK L (atomX L S h) := by
  intro i hi
  unfold atomX
  by_cases c : L.length ≤ i
  · rw [if_pos c]; exact ⟨hi, fun g => by cases g⟩
  · rw [if_neg c]; exact ⟨by show i + 1 ≤ _; omega, fun _ => by show i < i + 1; omega⟩
theorem loopX_ok {tm : Nat → RR} (ht : XOK L tm) : ∀ n v i, i ≤ L.length → (loopX L tm n v i).2.1 ≤ L.length ∧ ((loopX L tm n v i).2.2 = 0 → i ≤ (loopX L tm n v i).2.1) := by
  intro n
  induction n with
  | zero => intro v i hi; exact ⟨hi, fun _ => Nat.le_refl _⟩
  | succ n ih =>
    intro v i hi
    unfold loopX
    by_cases c : isOp (symS L i) = true
    · rw [if_pos c]
      obtain ⟨o1, _, _⟩ := op_at c
      obtain ⟨t1, t2⟩ := ht (i + 1) (by omega)
      by_cases c2 : (tm (i + 1)).2.2 = 0
      · rw [if_pos c2]
        have := t2 c2
        by_cases c3 : (opS (symS L i) v (tm (i + 1)).1).2 = 0
        · rw [if_pos c3]
          obtain ⟨a, b⟩ := ih (opS (symS L i) v (tm (i + 1)).1).1 _ t1
          exact ⟨a, fun g => by have := b g; omega⟩
        · rw [if_neg c3]; exact ⟨t1, fun g => absurd g c3⟩
      · rw [if_neg c2]; exact ⟨t1, fun g => absurd g c2⟩
    · rw [if_neg c]; exact ⟨hi, fun _ => Nat.le_refl _⟩
theorem exprX_ok {tm : Nat → RR} (ht : XOK L tm) : XOK L (exprX L tm) := by
  intro i hi
  unfold exprX
  obtain ⟨t1, t2⟩ := ht i hi
  by_cases c : (tm i).2.2 = 0
  · rw [if_pos c]
    obtain ⟨a, b⟩ := loopX_ok ht L.length (tm i).1 _ t1
    have := t2 c
    exact ⟨a, fun g => by have := b g; omega⟩
  · rw [if_neg c]; exact ⟨t1, fun g => absurd g c⟩
theorem negX_ok {r : RR} {i : Nat} (h1 : r.2.1 ≤ L.length) (h2 : r.2.2 = 0 → i < r.2.1) : (negX r).2.1 ≤ L.length ∧ ((negX r).2.2 = 0 → i < (negX r).2.1) := by
  unfold negX
  by_cases c : r.2.2 = 0
  · rw [if_pos c]; exact ⟨h1, fun _ => h2 c⟩
  · rw [if_neg c]; exact ⟨h1, fun g => absurd g c⟩
theorem parX_ok {r : RR} {i : Nat} (h1 : r.2.1 ≤ L.length) (h2 : r.2.2 = 0 → i < r.2.1) : (parX L r).2.1 ≤ L.length ∧ ((parX L r).2.2 = 0 → i < (parX L r).2.1) := by
  unfold parX
  by_cases c : r.2.2 = 0
  · rw [if_pos c]
    have := h2 c
    by_cases c2 : sIs (symS L r.2.1) [41] = true
    · obtain ⟨s1, _, _⟩ := sym_at (by simp) c2
      rw [if_pos c2]; exact ⟨by show r.2.1 + 1 ≤ _; omega, fun _ => by show i < r.2.1 + 1; omega⟩
    · rw [if_neg c2]; exact ⟨h1, fun g => by cases g⟩
  · rw [if_neg c]; exact ⟨h1, fun g => absurd g c⟩
theorem termX_ok : ∀ d, XOK L (termX L S h d) := by
  intro d
  induction d with
  | zero =>
    intro i hi
    unfold termX
    by_cases c : sIs (symS L i) [45] = true
    · rw [if_pos c]; exact negX_ok (r := (v0, i, 7)) hi (fun g => by cases g)
    · by_cases c2 : sIs (symS L i) [40] = true
      · rw [if_neg c, if_pos c2]; exact parX_ok (r := (v0, i, 7)) hi (fun g => by cases g)
      · rw [if_neg c, if_neg c2]; exact atomX_ok i hi
  | succ d ih =>
    intro i hi
    unfold termX
    by_cases c : sIs (symS L i) [45] = true
    · obtain ⟨s1, _, _⟩ := sym_at (by simp) c
      obtain ⟨t1, t2⟩ := ih (i + 1) (by omega)
      rw [if_pos c]; exact negX_ok t1 (fun g => by have := t2 g; omega)
    · by_cases c2 : sIs (symS L i) [40] = true
      · obtain ⟨s1, _, _⟩ := sym_at (by simp) c2
        obtain ⟨t1, t2⟩ := exprX_ok ih (i + 1) (by omega)
        rw [if_neg c, if_pos c2]; exact parX_ok t1 (fun g => by have := t2 g; omega)
      · rw [if_neg c, if_neg c2]; exact atomX_ok i hi
/-! ### it is what termS says, but for the place behind an error -/
def like (a b : RR) : Prop := a.2.2 = b.2.2 ∧ (a.2.2 = 0 → a = b)
theorem like_err {a b : RR} (h : a.2.2 = b.2.2) (n : a.2.2 ≠ 0) : like a b := ⟨h, fun g => absurd g n⟩
theorem like_refl (a : RR) : like a a := ⟨rfl, fun _ => rfl⟩
theorem atomX_like (i : Nat) : like (atomX L S h i) (atomS L S h i) := by
  unfold atomX atomS
  by_cases c : L.length ≤ i
  · rw [if_pos c, if_pos c]; exact like_err rfl (by show (3 : Int) ≠ 0; decide)
  · rw [if_neg c, if_neg c]
    have h3 : (atomT S h (rd_T38 L i)).2 = 0 ∨ (atomT S h (rd_T38 L i)).2 = 3 := by
      unfold atomT
      by_cases c1 : (rd_T38 L i).f0 = 2
      · simp [c1]
      · by_cases c2 : (rd_T38 L i).f0 = 1 ∧ sIs (rd_T38 L i).f1 [46] = true
        · simp [c2]
        · by_cases c3 : (rd_T38 L i).f0 = 1 ∧ nameS (rd_T38 L i).f1 = true
          · rw [if_neg c1, if_neg c2, if_pos c3]; exact .inl rfl
          · rw [if_neg c1, if_neg c2, if_neg c3]; exact .inr rfl
    rcases h3 with h3 | h3
    · rw [if_pos h3]; exact ⟨h3, fun _ => by rw [h3]⟩
    · rw [if_neg (by rw [h3]; decide)]; exact like_err h3 (by show (atomT S h (rd_T38 L i)).2 ≠ 0; rw [h3]; decide)
theorem loopX_like {t u : Nat → RR} (ht : ∀ i, like (t i) (u i)) : ∀ n v i, like (loopX L t n v i) (loopS L u n v i) := by
  intro n
  induction n with
  | zero => intro v i; exact like_refl _
  | succ n ih =>
    intro v i
    unfold loopX loopS
    by_cases c : isOp (symS L i) = true
    · rw [if_pos c, if_pos c]
      obtain ⟨e1, e2⟩ := ht (i + 1)
      by_cases c2 : (t (i + 1)).2.2 = 0
      · have e3 := e2 c2
        have c2' : (u (i + 1)).2.2 = 0 := e1.symm.trans c2
        rw [if_pos c2, if_pos c2', ← e3]
        by_cases c3 : (opS (symS L i) v (t (i + 1)).1).2 = 0
        · rw [if_pos c3, if_pos c3]; exact ih _ _
        · rw [if_neg c3, if_neg c3]; exact like_err rfl c3
      · rw [if_neg c2, if_neg (by rw [← e1]; exact c2)]; exact like_err e1 c2
    · rw [if_neg c, if_neg c]; exact like_refl _
theorem exprX_like {t u : Nat → RR} (ht : ∀ i, like (t i) (u i)) : ∀ i, like (exprX L t i) (exprS L u i) := by
  intro i
  unfold exprX exprS
  obtain ⟨e1, e2⟩ := ht i
  by_cases c : (t i).2.2 = 0
  · rw [if_pos c, if_pos (by rw [← e1]; exact c), ← e2 c]; exact loopX_like ht _ _ _
  · rw [if_neg c, if_neg (by rw [← e1]; exact c)]; exact like_err e1 c
theorem negX_like {a b : RR} (e : like a b) : like (negX a) (negS b) := by
  unfold negX negS
  by_cases c : a.2.2 = 0
  · rw [if_pos c, if_pos (by rw [← e.1]; exact c), ← e.2 c]; exact like_refl _
  · rw [if_neg c, if_neg (by rw [← e.1]; exact c)]; exact like_err e.1 c
theorem parX_like {a b : RR} (e : like a b) : like (parX L a) (parS L b) := by
  unfold parX parS
  by_cases c : a.2.2 = 0
  · have c' : b.2.2 = 0 := e.1.symm.trans c
    rw [if_pos c, if_pos c', ← e.2 c]
    by_cases c2 : sIs (symS L a.2.1) [41] = true
    · rw [if_pos c2, if_pos c2]; exact like_refl _
    · rw [if_neg c2, if_neg c2]; exact like_err rfl (by show (3 : Int) ≠ 0; decide)
  · rw [if_neg c, if_neg (by rw [← e.1]; exact c)]; exact like_err e.1 c
theorem termX_like : ∀ d i, like (termX L S h d i) (termS L S h d i) := by
  intro d
  induction d with
  | zero =>
    intro i
    unfold termX termS
    by_cases c : sIs (symS L i) [45] = true
    · rw [if_pos c, if_pos c]; exact like_err rfl (by show (7 : Int) ≠ 0; decide)
    · by_cases c2 : sIs (symS L i) [40] = true
      · rw [if_neg c, if_pos c2, if_neg c, if_pos c2]; exact like_err rfl (by show (7 : Int) ≠ 0; decide)
      · rw [if_neg c, if_neg c2, if_neg c, if_neg c2]; exact atomX_like i
  | succ d ih =>
    intro i
    unfold termX termS
    by_cases c : sIs (symS L i) [45] = true
    · rw [if_pos c, if_pos c]; exact negX_like (ih (i + 1))
    · by_cases c2 : sIs (symS L i) [40] = true
      · rw [if_neg c, if_pos c2, if_neg c, if_pos c2]; exact parX_like (exprX_like ih (i + 1))
      · rw [if_neg c, if_neg c2, if_neg c, if_neg c2]; exact atomX_like i
end
end Go.Proofs.Ytpinoobgnnlccaa.A

/- The reader's nested over the contracts of term and of expression. No condition. -/
namespace Go.Proofs.Ytpinoobgnnlccaa.A
open Go.RowKit Go.Proofs.YtpinoobgnnlccaaW.PrintWords Go.Proofs.YtpinoobgnnlccaaW.PrintLast Go.Proofs.YtpinoobgnnlccaaW.PrintMore
attribute [local go_sem] max2_int min2_int max_two min_two max_three min_three max_four min_four
set_option linter.unusedVariables false
set_option linter.unusedSimpArgs false
set_option maxHeartbeats 8000000 in
set_option maxRecDepth 100000 in
theorem nest34_c (F : List S38 → Int → List S44 → Int → ByteArray → Int → Int → Option (Int × ByteArray × Int × Int × Int × Int × ByteArray × Int)) (hT : RdC 34 F) : NestC 34 F := by
  intro g s0_0 s0_1 s0_2 s0_3 s0_4 s0_5 a1 r1 r2 r3 r4 r5 r6 r7 r8 w0 w hI hB h
  have HT := Aside0.mk hT
  clear hT
  have hu54 := Try.underlying54
  have HI0 := Aside0.mk hI
  have HK := Aside0.mk (KeepBut.refl w g none)
  have HL := Aside0.mk hB.size
  clear hI
  have HW0 := Aside0.mk hB.size
  have HB := Aside0.mk hB
  clear hB
  have H : (if a1 ≥ 16 then (some (0, (⟨#[]⟩ : ByteArray), 0, 7, s0_1, s0_3, s0_4, s0_5)) else ((F s0_0 (wrap64 (s0_1 + 1)) s0_2 s0_3 s0_4 s0_5 (wrap64 (a1 + 1))).bind fun bt103 => (some (bt103.1, bt103.2.1, bt103.2.2.1, bt103.2.2.2.1, bt103.2.2.2.2.1, bt103.2.2.2.2.2.1, bt103.2.2.2.2.2.2.1, bt103.2.2.2.2.2.2.2)))) = some (r1, r2, r3, r4, r5, r6, r7, r8) := by
    have e : ∀ x : Option (Int × ByteArray × Int × Int × Int × Int × ByteArray × Int), (x.bind fun bt103 => some (bt103.1, bt103.2.1, bt103.2.2.1, bt103.2.2.2.1, bt103.2.2.2.2.1, bt103.2.2.2.2.2.1, bt103.2.2.2.2.2.2.1, bt103.2.2.2.2.2.2.2)) = x := fun x => by cases x <;> rfl
    rw [e]; exact h
  clear h
  by_cases c4 : a1 ≥ 16
  · rw [if_pos c4] at H
    have c4b0 : decide (16 ≤ a1) = true := decide_eq_true c4
    clear c4
    simp only [Option.some.injEq, Prod.mk.injEq] at H
    obtain ⟨rfl, rfl, rfl, rfl, rfl, rfl, rfl, rfl⟩ := H
    go_enter Try.func47, Try.ntmps47
    go_wp2_with (first | ((with_reducible refine gate_dst (N := 6) rfl ?_); refine box_event ?hg (N := 6) ?hd (cs := #[.int .i64 0, .string (⟨#[]⟩ : ByteArray), .int .i64 0]) (t := 54) ?hr ?_; (case hd => rfl); (case hg => rfl); (case hr => first | (go_simp; done) | (go_simp; rfl)); intro gb102 hg w5 hbox hb; have n0_ := Aside0.mk (IsS53.below (by repeat (first | (with_reducible first | exact HI0.out | apply IsS53.alloc | apply IsS53.drewN | apply IsS53.drew | apply IsS53.set_1 | apply IsS53.set_3 | apply IsS53.set_4 | apply IsS53.set_5) | exact HI0.out)) hb); have n1_ := Aside0.mk (KeepBut.trans (by repeat (first | (with_reducible first | exact HK.out | apply KeepBut.set_ | apply keep_drewN | apply keep_drew | apply keep_alloc) | exact HK.out)) (KeepBut.of_below hb g none) (.inl rfl)); have n2_ := Aside0.mk (below_step (by repeat (first | (with_reducible first | exact HB.out | apply below_alloc | apply pw_below_drewN | apply below_drew1 | refine below_set ?_ (IsS53.ge HI0.out)) | exact HB.out)) hb); have n3_ := Aside0.mk (hbox); have n4_ := Aside0.mk ((by rw [hg]; exact (keep_size (w := w) (g := g) (row := none) (by repeat (first | (with_reducible first | exact HK.out | apply KeepBut.set_ | apply keep_drewN | apply keep_drew | apply keep_alloc) | exact HK.out))) : w.heap.size ≤ gb102)); have n5_ := Aside0.mk ((Nat.le_trans HW0.out (by rw [hg]; exact (keep_size (w := w) (g := g) (row := none) (by repeat (first | (with_reducible first | exact HK.out | apply KeepBut.set_ | apply keep_drewN | apply keep_drew | apply keep_alloc) | exact HK.out))) : w.heap.size ≤ gb102) : w0.heap.size ≤ gb102)); have n6_ := Aside0.mk ((by rw [hg]; exact Nat.ne_of_lt (IsS53.lt (show IsS53 w0 _ g s0_0 s0_1 s0_2 s0_3 s0_4 s0_5 from by repeat (first | (with_reducible first | exact HI0.out | apply IsS53.alloc | apply IsS53.drewN | apply IsS53.drew | apply IsS53.set_1 | apply IsS53.set_3 | apply IsS53.set_4 | apply IsS53.set_5) | exact HI0.out))) : g ≠ gb102)); have n7_ := Aside0.mk ((by rw [hg]; exact Nat.ne_of_gt (IsS53.lt (show IsS53 w0 _ g s0_0 s0_1 s0_2 s0_3 s0_4 s0_5 from by repeat (first | (with_reducible first | exact HI0.out | apply IsS53.alloc | apply IsS53.drewN | apply IsS53.drew | apply IsS53.set_1 | apply IsS53.set_3 | apply IsS53.set_4 | apply IsS53.set_5) | exact HI0.out))) : gb102 ≠ g)); clear HI0; clear HK; clear HB; have HI0 := n0_; have HK := n1_; have HB := n2_; have BK102 := n3_; have GW102 := n4_; have GE102 := n5_; have NB0_102 := n6_; have NB102_0 := n7_; clear n0_ n1_ n2_ n3_ n4_ n5_ n6_ n7_; clear hb hbox hg; have hnb6 := NB102_0.out; have hnc6 := NB0_102.out; have hcz7_0 : w5.cell? ⟨gb102, 0, none⟩ = some (.int .i64 0) := (blk_cell BK102.out 0).trans rfl; have hcz7_1 : w5.cell? ⟨gb102, 1, none⟩ = some (.string (⟨#[]⟩ : ByteArray)) := (blk_cell BK102.out 1).trans rfl; have hcz7_2 : w5.cell? ⟨gb102, 2, none⟩ = some (.int .i64 0) := (blk_cell BK102.out 2).trans rfl; have hfz7_0 := blk_frozen BK102.out 0; have hfz7_1 := blk_frozen BK102.out 1; have hfz7_2 := blk_frozen BK102.out 2))
    refine bodyPost_ret (results_ct rfl _ _ gb102 54 #[.int .i64 0, .string (⟨#[]⟩ : ByteArray), .int .i64 0] (0, 0) _ rfl (by (with_reducible repeat (first | refine blk_drewN ?_ _ | refine blk_drew ?_ | refine blk_alloc ?_ _)); refine blk_put (cs := #[.int .i64 0, .string (⟨#[]⟩ : ByteArray), .int .i64 0]) ?_ 2 _ rfl; (with_reducible repeat (first | refine blk_drewN ?_ _ | refine blk_drew ?_ | refine blk_alloc ?_ _)); refine blk_put (cs := #[.int .i64 0, .string (⟨#[]⟩ : ByteArray), .int .i64 0]) ?_ 1 _ rfl; (with_reducible repeat (first | refine blk_drewN ?_ _ | refine blk_drew ?_ | refine blk_alloc ?_ _)); refine blk_put (cs := #[.int .i64 0, .string (⟨#[]⟩ : ByteArray), .int .i64 0]) ?_ 0 _ rfl; (with_reducible repeat (first | refine blk_drewN ?_ _ | refine blk_drew ?_ | refine blk_alloc ?_ _)); exact BK102.out) Try.underlying54 rfl (by kernel_rfl)) rfl ?_
    exact ⟨by first | rfl | (simp [errW_none, errW_some] <;> rfl) | (simp [*, errW_none, errW_some] <;> rfl), by repeat (first | (with_reducible first | exact HI0.out | apply IsS53.alloc | apply IsS53.drewN | apply IsS53.drew | apply IsS53.set_1 | apply IsS53.set_3 | apply IsS53.set_4 | apply IsS53.set_5 | refine IsS53.far ?_ NB0_102.out _) | exact HI0.out), by repeat (first | (with_reducible first | exact HB.out | apply below_alloc | apply pw_below_drewN | apply below_drew1 | refine below_set ?_ (IsS53.ge HI0.out) | refine below_set ?_ GE102.out) | exact HB.out), by repeat (first | (with_reducible first | exact HK.out | apply KeepBut.set_ | apply keep_drewN | apply keep_drew | apply keep_alloc | refine keep_far ?_ GW102.out _) | exact HK.out)⟩
  · rw [if_neg c4] at H
    have c4b0 : decide (16 ≤ a1) = false := decide_eq_false c4
    clear c4
    replace H := Option.bind_eq_some_iff.mp H
    obtain ⟨⟨t103, t104, t105, t106, t107, t108, t109, t110⟩, A80, H⟩ := H
    replace H : (some (t103, t104, t105, t106, t107, t108, t109, t110)) = some (r1, r2, r3, r4, r5, r6, r7, r8) := H
    have A8 := Aside0.mk A80
    clear A80
    simp only [Option.some.injEq, Prod.mk.injEq] at H
    obtain ⟨rfl, rfl, rfl, rfl, rfl, rfl, rfl, rfl⟩ := H
    go_enter Try.func47, Try.ntmps47
    go_wp2_with (first | ((with_reducible refine gate_dst (N := 6) rfl ?_); refine box_event ?hg (N := 6) ?hd (cs := #[.int .i64 0, .string (⟨#[]⟩ : ByteArray), .int .i64 0]) (t := 54) ?hr ?_; (case hd => rfl); (case hg => rfl); (case hr => first | (go_simp; done) | (go_simp; rfl)); intro gb102 hg w9 hbox hb; have n0_ := Aside0.mk (IsS53.below (by repeat (first | (with_reducible first | exact HI0.out | apply IsS53.alloc | apply IsS53.drewN | apply IsS53.drew | apply IsS53.set_1 | apply IsS53.set_3 | apply IsS53.set_4 | apply IsS53.set_5) | exact HI0.out)) hb); have n1_ := Aside0.mk (KeepBut.trans (by repeat (first | (with_reducible first | exact HK.out | apply KeepBut.set_ | apply keep_drewN | apply keep_drew | apply keep_alloc) | exact HK.out)) (KeepBut.of_below hb g none) (.inl rfl)); have n2_ := Aside0.mk (below_step (by repeat (first | (with_reducible first | exact HB.out | apply below_alloc | apply pw_below_drewN | apply below_drew1 | refine below_set ?_ (IsS53.ge HI0.out)) | exact HB.out)) hb); have n3_ := Aside0.mk (hbox); have n4_ := Aside0.mk ((by rw [hg]; exact (keep_size (w := w) (g := g) (row := none) (by repeat (first | (with_reducible first | exact HK.out | apply KeepBut.set_ | apply keep_drewN | apply keep_drew | apply keep_alloc) | exact HK.out))) : w.heap.size ≤ gb102)); have n5_ := Aside0.mk ((Nat.le_trans HW0.out (by rw [hg]; exact (keep_size (w := w) (g := g) (row := none) (by repeat (first | (with_reducible first | exact HK.out | apply KeepBut.set_ | apply keep_drewN | apply keep_drew | apply keep_alloc) | exact HK.out))) : w.heap.size ≤ gb102) : w0.heap.size ≤ gb102)); have n6_ := Aside0.mk ((by rw [hg]; exact Nat.ne_of_lt (IsS53.lt (show IsS53 w0 _ g s0_0 s0_1 s0_2 s0_3 s0_4 s0_5 from by repeat (first | (with_reducible first | exact HI0.out | apply IsS53.alloc | apply IsS53.drewN | apply IsS53.drew | apply IsS53.set_1 | apply IsS53.set_3 | apply IsS53.set_4 | apply IsS53.set_5) | exact HI0.out))) : g ≠ gb102)); have n7_ := Aside0.mk ((by rw [hg]; exact Nat.ne_of_gt (IsS53.lt (show IsS53 w0 _ g s0_0 s0_1 s0_2 s0_3 s0_4 s0_5 from by repeat (first | (with_reducible first | exact HI0.out | apply IsS53.alloc | apply IsS53.drewN | apply IsS53.drew | apply IsS53.set_1 | apply IsS53.set_3 | apply IsS53.set_4 | apply IsS53.set_5) | exact HI0.out))) : gb102 ≠ g)); clear HI0; clear HK; clear HB; have HI0 := n0_; have HK := n1_; have HB := n2_; have BK102 := n3_; have GW102 := n4_; have GE102 := n5_; have NB0_102 := n6_; have NB102_0 := n7_; clear n0_ n1_ n2_ n3_ n4_ n5_ n6_ n7_; clear hb hbox hg; obtain ⟨ASz10_0, cSz10_0, ASz10_2, cSz10_2, HGz10, hgz10, HSz10_0, HSz10_2⟩ := HI0.out; have hcz10_0 := cellS53_0 HGz10; have hcz10_1 := cellS53_1 HGz10; have hcz10_2 := cellS53_2 HGz10; have hcz10_3 := cellS53_3 HGz10; have hcz10_4 := cellS53_4 HGz10; have hcz10_5 := cellS53_5 HGz10; have hfz10_1 := blk_frozen HGz10 1; have hfz10_3 := blk_frozen HGz10 3; have hfz10_4 := blk_frozen HGz10 4; have hfz10_5 := blk_frozen HGz10 5; clear HGz10 hgz10) | ((with_reducible refine gate_dst (N := 21) rfl ?_); refine goesV_ (some 21) rfl rfl Try.func34 (by kernel_rfl) rfl #[.int .i64 (wrap64 (a1 + 1))] #[.pointer (some ⟨g, 0, none⟩), .int .i64 (wrap64 (a1 + 1))] rfl rfl (by (try simp only [List.map_toArray, List.map_cons, List.map_nil]); first | done | rfl | (simp only [List.length_drop, List.length_take]; rfl)) rfl ?_; (with_reducible refine (HT.out g s0_0 (wrap64 (s0_1 + 1)) s0_2 s0_3 s0_4 s0_5 (wrap64 (a1 + 1)) t103 t104 t105 t106 t107 t108 t109 t110 w0 _ ?side1 ?side2 A8.out).mono ?_); (case side1 => repeat (first | (with_reducible first | exact HI0.out | apply IsS53.alloc | apply IsS53.drewN | apply IsS53.drew | apply IsS53.set_1 | apply IsS53.set_3 | apply IsS53.set_4 | apply IsS53.set_5 | refine IsS53.far ?_ NB0_102.out _) | exact HI0.out)); (case side2 => repeat (first | (with_reducible first | exact HB.out | apply below_alloc | apply pw_below_drewN | apply below_drew1 | refine below_set ?_ (IsS53.ge HI0.out) | refine below_set ?_ GE102.out) | exact HB.out)); rintro e w11 ⟨rfl, hi, hb, hk⟩; refine ⟨_, rfl, ?_⟩; have n0_ := Aside0.mk (KeepBut.blk hk (g' := gb102) (o := .cells #[.int .i64 0, .string (⟨#[]⟩ : ByteArray), .int .i64 0] 54 (0, 0)) (by (with_reducible repeat (first | refine blk_drewN ?_ _ | refine blk_drew ?_ | refine blk_alloc ?_ _)); refine blk_far ?_ NB102_0.out _; (with_reducible repeat (first | refine blk_drewN ?_ _ | refine blk_drew ?_ | refine blk_alloc ?_ _)); exact BK102.out) NB102_0.out (by simp)); have n1_ := Aside0.mk (KeepBut.trans (by repeat (first | (with_reducible first | exact HK.out | apply KeepBut.set_ | apply keep_drewN | apply keep_drew | apply keep_alloc | refine keep_far ?_ GW102.out _) | exact HK.out)) hk (.inl rfl)); have n2_ := Aside0.mk (hb); have n3_ := Aside0.mk (hi); clear BK102; clear HK; clear HB; clear HI0; have BK102 := n0_; have HK := n1_; have HB := n2_; have HI0 := n3_; clear n0_ n1_ n2_ n3_; (try clear hb); (try clear hb2); (try clear hk); (try clear hi); have hnb12 := NB102_0.out; have hnc12 := NB0_102.out; have hcz13_0 : w11.cell? ⟨gb102, 0, none⟩ = some (.int .i64 0) := (blk_cell BK102.out 0).trans rfl; have hcz13_1 : w11.cell? ⟨gb102, 1, none⟩ = some (.string (⟨#[]⟩ : ByteArray)) := (blk_cell BK102.out 1).trans rfl; have hcz13_2 : w11.cell? ⟨gb102, 2, none⟩ = some (.int .i64 0) := (blk_cell BK102.out 2).trans rfl; have hfz13_0 := blk_frozen BK102.out 0; have hfz13_1 := blk_frozen BK102.out 1; have hfz13_2 := blk_frozen BK102.out 2))
    refine bodyPost_ret (results_ct rfl _ _ gb102 54 #[.int .i64 t103, .string t104, .int .i64 t105] (0, 0) _ rfl (by (with_reducible repeat (first | refine blk_drewN ?_ _ | refine blk_drew ?_ | refine blk_alloc ?_ _)); refine blk_put (cs := #[.int .i64 t103, .string t104, .int .i64 0]) ?_ 2 _ rfl; (with_reducible repeat (first | refine blk_drewN ?_ _ | refine blk_drew ?_ | refine blk_alloc ?_ _)); refine blk_put (cs := #[.int .i64 t103, .string (⟨#[]⟩ : ByteArray), .int .i64 0]) ?_ 1 _ rfl; (with_reducible repeat (first | refine blk_drewN ?_ _ | refine blk_drew ?_ | refine blk_alloc ?_ _)); refine blk_put (cs := #[.int .i64 0, .string (⟨#[]⟩ : ByteArray), .int .i64 0]) ?_ 0 _ rfl; (with_reducible repeat (first | refine blk_drewN ?_ _ | refine blk_drew ?_ | refine blk_alloc ?_ _)); exact BK102.out) Try.underlying54 rfl (by kernel_rfl)) rfl ?_
    exact ⟨by first | rfl | (simp [errW_none, errW_some] <;> rfl) | (simp [*, errW_none, errW_some] <;> rfl), by repeat (first | (with_reducible first | exact HI0.out | apply IsS53.alloc | apply IsS53.drewN | apply IsS53.drew | apply IsS53.set_1 | apply IsS53.set_3 | apply IsS53.set_4 | apply IsS53.set_5 | refine IsS53.far ?_ NB0_102.out _) | exact HI0.out), by repeat (first | (with_reducible first | exact HB.out | apply below_alloc | apply pw_below_drewN | apply below_drew1 | refine below_set ?_ (IsS53.ge HI0.out) | refine below_set ?_ GE102.out) | exact HB.out), by repeat (first | (with_reducible first | exact HK.out | apply KeepBut.set_ | apply keep_drewN | apply keep_drew | apply keep_alloc | refine keep_far ?_ GW102.out _) | exact HK.out)⟩
set_option maxHeartbeats 8000000 in
set_option maxRecDepth 100000 in
theorem nest26_c (F : List S38 → Int → List S44 → Int → ByteArray → Int → Int → Option (Int × ByteArray × Int × Int × Int × Int × ByteArray × Int)) (hT : RdC 26 F) : NestC 26 F := by
  intro g s0_0 s0_1 s0_2 s0_3 s0_4 s0_5 a1 r1 r2 r3 r4 r5 r6 r7 r8 w0 w hI hB h
  have HT := Aside0.mk hT
  clear hT
  have hu54 := Try.underlying54
  have HI0 := Aside0.mk hI
  have HK := Aside0.mk (KeepBut.refl w g none)
  have HL := Aside0.mk hB.size
  clear hI
  have HW0 := Aside0.mk hB.size
  have HB := Aside0.mk hB
  clear hB
  have H : (if a1 ≥ 16 then (some (0, (⟨#[]⟩ : ByteArray), 0, 7, s0_1, s0_3, s0_4, s0_5)) else ((F s0_0 (wrap64 (s0_1 + 1)) s0_2 s0_3 s0_4 s0_5 (wrap64 (a1 + 1))).bind fun bt103 => (some (bt103.1, bt103.2.1, bt103.2.2.1, bt103.2.2.2.1, bt103.2.2.2.2.1, bt103.2.2.2.2.2.1, bt103.2.2.2.2.2.2.1, bt103.2.2.2.2.2.2.2)))) = some (r1, r2, r3, r4, r5, r6, r7, r8) := by
    have e : ∀ x : Option (Int × ByteArray × Int × Int × Int × Int × ByteArray × Int), (x.bind fun bt103 => some (bt103.1, bt103.2.1, bt103.2.2.1, bt103.2.2.2.1, bt103.2.2.2.2.1, bt103.2.2.2.2.2.1, bt103.2.2.2.2.2.2.1, bt103.2.2.2.2.2.2.2)) = x := fun x => by cases x <;> rfl
    rw [e]; exact h
  clear h
  by_cases c4 : a1 ≥ 16
  · rw [if_pos c4] at H
    have c4b0 : decide (16 ≤ a1) = true := decide_eq_true c4
    clear c4
    simp only [Option.some.injEq, Prod.mk.injEq] at H
    obtain ⟨rfl, rfl, rfl, rfl, rfl, rfl, rfl, rfl⟩ := H
    go_enter Try.func47, Try.ntmps47
    go_wp2_with (first | ((with_reducible refine gate_dst (N := 6) rfl ?_); refine box_event ?hg (N := 6) ?hd (cs := #[.int .i64 0, .string (⟨#[]⟩ : ByteArray), .int .i64 0]) (t := 54) ?hr ?_; (case hd => rfl); (case hg => rfl); (case hr => first | (go_simp; done) | (go_simp; rfl)); intro gb102 hg w5 hbox hb; have n0_ := Aside0.mk (IsS53.below (by repeat (first | (with_reducible first | exact HI0.out | apply IsS53.alloc | apply IsS53.drewN | apply IsS53.drew | apply IsS53.set_1 | apply IsS53.set_3 | apply IsS53.set_4 | apply IsS53.set_5) | exact HI0.out)) hb); have n1_ := Aside0.mk (KeepBut.trans (by repeat (first | (with_reducible first | exact HK.out | apply KeepBut.set_ | apply keep_drewN | apply keep_drew | apply keep_alloc) | exact HK.out)) (KeepBut.of_below hb g none) (.inl rfl)); have n2_ := Aside0.mk (below_step (by repeat (first | (with_reducible first | exact HB.out | apply below_alloc | apply pw_below_drewN | apply below_drew1 | refine below_set ?_ (IsS53.ge HI0.out)) | exact HB.out)) hb); have n3_ := Aside0.mk (hbox); have n4_ := Aside0.mk ((by rw [hg]; exact (keep_size (w := w) (g := g) (row := none) (by repeat (first | (with_reducible first | exact HK.out | apply KeepBut.set_ | apply keep_drewN | apply keep_drew | apply keep_alloc) | exact HK.out))) : w.heap.size ≤ gb102)); have n5_ := Aside0.mk ((Nat.le_trans HW0.out (by rw [hg]; exact (keep_size (w := w) (g := g) (row := none) (by repeat (first | (with_reducible first | exact HK.out | apply KeepBut.set_ | apply keep_drewN | apply keep_drew | apply keep_alloc) | exact HK.out))) : w.heap.size ≤ gb102) : w0.heap.size ≤ gb102)); have n6_ := Aside0.mk ((by rw [hg]; exact Nat.ne_of_lt (IsS53.lt (show IsS53 w0 _ g s0_0 s0_1 s0_2 s0_3 s0_4 s0_5 from by repeat (first | (with_reducible first | exact HI0.out | apply IsS53.alloc | apply IsS53.drewN | apply IsS53.drew | apply IsS53.set_1 | apply IsS53.set_3 | apply IsS53.set_4 | apply IsS53.set_5) | exact HI0.out))) : g ≠ gb102)); have n7_ := Aside0.mk ((by rw [hg]; exact Nat.ne_of_gt (IsS53.lt (show IsS53 w0 _ g s0_0 s0_1 s0_2 s0_3 s0_4 s0_5 from by repeat (first | (with_reducible first | exact HI0.out | apply IsS53.alloc | apply IsS53.drewN | apply IsS53.drew | apply IsS53.set_1 | apply IsS53.set_3 | apply IsS53.set_4 | apply IsS53.set_5) | exact HI0.out))) : gb102 ≠ g)); clear HI0; clear HK; clear HB; have HI0 := n0_; have HK := n1_; have HB := n2_; have BK102 := n3_; have GW102 := n4_; have GE102 := n5_; have NB0_102 := n6_; have NB102_0 := n7_; clear n0_ n1_ n2_ n3_ n4_ n5_ n6_ n7_; clear hb hbox hg; have hnb6 := NB102_0.out; have hnc6 := NB0_102.out; have hcz7_0 : w5.cell? ⟨gb102, 0, none⟩ = some (.int .i64 0) := (blk_cell BK102.out 0).trans rfl; have hcz7_1 : w5.cell? ⟨gb102, 1, none⟩ = some (.string (⟨#[]⟩ : ByteArray)) := (blk_cell BK102.out 1).trans rfl; have hcz7_2 : w5.cell? ⟨gb102, 2, none⟩ = some (.int .i64 0) := (blk_cell BK102.out 2).trans rfl; have hfz7_0 := blk_frozen BK102.out 0; have hfz7_1 := blk_frozen BK102.out 1; have hfz7_2 := blk_frozen BK102.out 2))
    refine bodyPost_ret (results_ct rfl _ _ gb102 54 #[.int .i64 0, .string (⟨#[]⟩ : ByteArray), .int .i64 0] (0, 0) _ rfl (by (with_reducible repeat (first | refine blk_drewN ?_ _ | refine blk_drew ?_ | refine blk_alloc ?_ _)); refine blk_put (cs := #[.int .i64 0, .string (⟨#[]⟩ : ByteArray), .int .i64 0]) ?_ 2 _ rfl; (with_reducible repeat (first | refine blk_drewN ?_ _ | refine blk_drew ?_ | refine blk_alloc ?_ _)); refine blk_put (cs := #[.int .i64 0, .string (⟨#[]⟩ : ByteArray), .int .i64 0]) ?_ 1 _ rfl; (with_reducible repeat (first | refine blk_drewN ?_ _ | refine blk_drew ?_ | refine blk_alloc ?_ _)); refine blk_put (cs := #[.int .i64 0, .string (⟨#[]⟩ : ByteArray), .int .i64 0]) ?_ 0 _ rfl; (with_reducible repeat (first | refine blk_drewN ?_ _ | refine blk_drew ?_ | refine blk_alloc ?_ _)); exact BK102.out) Try.underlying54 rfl (by kernel_rfl)) rfl ?_
    exact ⟨by first | rfl | (simp [errW_none, errW_some] <;> rfl) | (simp [*, errW_none, errW_some] <;> rfl), by repeat (first | (with_reducible first | exact HI0.out | apply IsS53.alloc | apply IsS53.drewN | apply IsS53.drew | apply IsS53.set_1 | apply IsS53.set_3 | apply IsS53.set_4 | apply IsS53.set_5 | refine IsS53.far ?_ NB0_102.out _) | exact HI0.out), by repeat (first | (with_reducible first | exact HB.out | apply below_alloc | apply pw_below_drewN | apply below_drew1 | refine below_set ?_ (IsS53.ge HI0.out) | refine below_set ?_ GE102.out) | exact HB.out), by repeat (first | (with_reducible first | exact HK.out | apply KeepBut.set_ | apply keep_drewN | apply keep_drew | apply keep_alloc | refine keep_far ?_ GW102.out _) | exact HK.out)⟩
  · rw [if_neg c4] at H
    have c4b0 : decide (16 ≤ a1) = false := decide_eq_false c4
    clear c4
    replace H := Option.bind_eq_some_iff.mp H
    obtain ⟨⟨t103, t104, t105, t106, t107, t108, t109, t110⟩, A80, H⟩ := H
    replace H : (some (t103, t104, t105, t106, t107, t108, t109, t110)) = some (r1, r2, r3, r4, r5, r6, r7, r8) := H
    have A8 := Aside0.mk A80
    clear A80
    simp only [Option.some.injEq, Prod.mk.injEq] at H
    obtain ⟨rfl, rfl, rfl, rfl, rfl, rfl, rfl, rfl⟩ := H
    go_enter Try.func47, Try.ntmps47
    go_wp2_with (first | ((with_reducible refine gate_dst (N := 6) rfl ?_); refine box_event ?hg (N := 6) ?hd (cs := #[.int .i64 0, .string (⟨#[]⟩ : ByteArray), .int .i64 0]) (t := 54) ?hr ?_; (case hd => rfl); (case hg => rfl); (case hr => first | (go_simp; done) | (go_simp; rfl)); intro gb102 hg w9 hbox hb; have n0_ := Aside0.mk (IsS53.below (by repeat (first | (with_reducible first | exact HI0.out | apply IsS53.alloc | apply IsS53.drewN | apply IsS53.drew | apply IsS53.set_1 | apply IsS53.set_3 | apply IsS53.set_4 | apply IsS53.set_5) | exact HI0.out)) hb); have n1_ := Aside0.mk (KeepBut.trans (by repeat (first | (with_reducible first | exact HK.out | apply KeepBut.set_ | apply keep_drewN | apply keep_drew | apply keep_alloc) | exact HK.out)) (KeepBut.of_below hb g none) (.inl rfl)); have n2_ := Aside0.mk (below_step (by repeat (first | (with_reducible first | exact HB.out | apply below_alloc | apply pw_below_drewN | apply below_drew1 | refine below_set ?_ (IsS53.ge HI0.out)) | exact HB.out)) hb); have n3_ := Aside0.mk (hbox); have n4_ := Aside0.mk ((by rw [hg]; exact (keep_size (w := w) (g := g) (row := none) (by repeat (first | (with_reducible first | exact HK.out | apply KeepBut.set_ | apply keep_drewN | apply keep_drew | apply keep_alloc) | exact HK.out))) : w.heap.size ≤ gb102)); have n5_ := Aside0.mk ((Nat.le_trans HW0.out (by rw [hg]; exact (keep_size (w := w) (g := g) (row := none) (by repeat (first | (with_reducible first | exact HK.out | apply KeepBut.set_ | apply keep_drewN | apply keep_drew | apply keep_alloc) | exact HK.out))) : w.heap.size ≤ gb102) : w0.heap.size ≤ gb102)); have n6_ := Aside0.mk ((by rw [hg]; exact Nat.ne_of_lt (IsS53.lt (show IsS53 w0 _ g s0_0 s0_1 s0_2 s0_3 s0_4 s0_5 from by repeat (first | (with_reducible first | exact HI0.out | apply IsS53.alloc | apply IsS53.drewN | apply IsS53.drew | apply IsS53.set_1 | apply IsS53.set_3 | apply IsS53.set_4 | apply IsS53.set_5) | exact HI0.out))) : g ≠ gb102)); have n7_ := Aside0.mk ((by rw [hg]; exact Nat.ne_of_gt (IsS53.lt (show IsS53 w0 _ g s0_0 s0_1 s0_2 s0_3 s0_4 s0_5 from by repeat (first | (with_reducible first | exact HI0.out | apply IsS53.alloc | apply IsS53.drewN | apply IsS53.drew | apply IsS53.set_1 | apply IsS53.set_3 | apply IsS53.set_4 | apply IsS53.set_5) | exact HI0.out))) : gb102 ≠ g)); clear HI0; clear HK; clear HB; have HI0 := n0_; have HK := n1_; have HB := n2_; have BK102 := n3_; have GW102 := n4_; have GE102 := n5_; have NB0_102 := n6_; have NB102_0 := n7_; clear n0_ n1_ n2_ n3_ n4_ n5_ n6_ n7_; clear hb hbox hg; obtain ⟨ASz10_0, cSz10_0, ASz10_2, cSz10_2, HGz10, hgz10, HSz10_0, HSz10_2⟩ := HI0.out; have hcz10_0 := cellS53_0 HGz10; have hcz10_1 := cellS53_1 HGz10; have hcz10_2 := cellS53_2 HGz10; have hcz10_3 := cellS53_3 HGz10; have hcz10_4 := cellS53_4 HGz10; have hcz10_5 := cellS53_5 HGz10; have hfz10_1 := blk_frozen HGz10 1; have hfz10_3 := blk_frozen HGz10 3; have hfz10_4 := blk_frozen HGz10 4; have hfz10_5 := blk_frozen HGz10 5; clear HGz10 hgz10) | ((with_reducible refine gate_dst (N := 21) rfl ?_); refine goesV_ (some 21) rfl rfl Try.func26 (by kernel_rfl) rfl #[.int .i64 (wrap64 (a1 + 1))] #[.pointer (some ⟨g, 0, none⟩), .int .i64 (wrap64 (a1 + 1))] rfl rfl (by (try simp only [List.map_toArray, List.map_cons, List.map_nil]); first | done | rfl | (simp only [List.length_drop, List.length_take]; rfl)) rfl ?_; (with_reducible refine (HT.out g s0_0 (wrap64 (s0_1 + 1)) s0_2 s0_3 s0_4 s0_5 (wrap64 (a1 + 1)) t103 t104 t105 t106 t107 t108 t109 t110 w0 _ ?side1 ?side2 A8.out).mono ?_); (case side1 => repeat (first | (with_reducible first | exact HI0.out | apply IsS53.alloc | apply IsS53.drewN | apply IsS53.drew | apply IsS53.set_1 | apply IsS53.set_3 | apply IsS53.set_4 | apply IsS53.set_5 | refine IsS53.far ?_ NB0_102.out _) | exact HI0.out)); (case side2 => repeat (first | (with_reducible first | exact HB.out | apply below_alloc | apply pw_below_drewN | apply below_drew1 | refine below_set ?_ (IsS53.ge HI0.out) | refine below_set ?_ GE102.out) | exact HB.out)); rintro e w11 ⟨rfl, hi, hb, hk⟩; refine ⟨_, rfl, ?_⟩; have n0_ := Aside0.mk (KeepBut.blk hk (g' := gb102) (o := .cells #[.int .i64 0, .string (⟨#[]⟩ : ByteArray), .int .i64 0] 54 (0, 0)) (by (with_reducible repeat (first | refine blk_drewN ?_ _ | refine blk_drew ?_ | refine blk_alloc ?_ _)); refine blk_far ?_ NB102_0.out _; (with_reducible repeat (first | refine blk_drewN ?_ _ | refine blk_drew ?_ | refine blk_alloc ?_ _)); exact BK102.out) NB102_0.out (by simp)); have n1_ := Aside0.mk (KeepBut.trans (by repeat (first | (with_reducible first | exact HK.out | apply KeepBut.set_ | apply keep_drewN | apply keep_drew | apply keep_alloc | refine keep_far ?_ GW102.out _) | exact HK.out)) hk (.inl rfl)); have n2_ := Aside0.mk (hb); have n3_ := Aside0.mk (hi); clear BK102; clear HK; clear HB; clear HI0; have BK102 := n0_; have HK := n1_; have HB := n2_; have HI0 := n3_; clear n0_ n1_ n2_ n3_; (try clear hb); (try clear hb2); (try clear hk); (try clear hi); have hnb12 := NB102_0.out; have hnc12 := NB0_102.out; have hcz13_0 : w11.cell? ⟨gb102, 0, none⟩ = some (.int .i64 0) := (blk_cell BK102.out 0).trans rfl; have hcz13_1 : w11.cell? ⟨gb102, 1, none⟩ = some (.string (⟨#[]⟩ : ByteArray)) := (blk_cell BK102.out 1).trans rfl; have hcz13_2 : w11.cell? ⟨gb102, 2, none⟩ = some (.int .i64 0) := (blk_cell BK102.out 2).trans rfl; have hfz13_0 := blk_frozen BK102.out 0; have hfz13_1 := blk_frozen BK102.out 1; have hfz13_2 := blk_frozen BK102.out 2))
    refine bodyPost_ret (results_ct rfl _ _ gb102 54 #[.int .i64 t103, .string t104, .int .i64 t105] (0, 0) _ rfl (by (with_reducible repeat (first | refine blk_drewN ?_ _ | refine blk_drew ?_ | refine blk_alloc ?_ _)); refine blk_put (cs := #[.int .i64 t103, .string t104, .int .i64 0]) ?_ 2 _ rfl; (with_reducible repeat (first | refine blk_drewN ?_ _ | refine blk_drew ?_ | refine blk_alloc ?_ _)); refine blk_put (cs := #[.int .i64 t103, .string (⟨#[]⟩ : ByteArray), .int .i64 0]) ?_ 1 _ rfl; (with_reducible repeat (first | refine blk_drewN ?_ _ | refine blk_drew ?_ | refine blk_alloc ?_ _)); refine blk_put (cs := #[.int .i64 0, .string (⟨#[]⟩ : ByteArray), .int .i64 0]) ?_ 0 _ rfl; (with_reducible repeat (first | refine blk_drewN ?_ _ | refine blk_drew ?_ | refine blk_alloc ?_ _)); exact BK102.out) Try.underlying54 rfl (by kernel_rfl)) rfl ?_
    exact ⟨by first | rfl | (simp [errW_none, errW_some] <;> rfl) | (simp [*, errW_none, errW_some] <;> rfl), by repeat (first | (with_reducible first | exact HI0.out | apply IsS53.alloc | apply IsS53.drewN | apply IsS53.drew | apply IsS53.set_1 | apply IsS53.set_3 | apply IsS53.set_4 | apply IsS53.set_5 | refine IsS53.far ?_ NB0_102.out _) | exact HI0.out), by repeat (first | (with_reducible first | exact HB.out | apply below_alloc | apply pw_below_drewN | apply below_drew1 | refine below_set ?_ (IsS53.ge HI0.out) | refine below_set ?_ GE102.out) | exact HB.out), by repeat (first | (with_reducible first | exact HK.out | apply KeepBut.set_ | apply keep_drewN | apply keep_drew | apply keep_alloc | refine keep_far ?_ GW102.out _) | exact HK.out)⟩
end Go.Proofs.Ytpinoobgnnlccaa.A
