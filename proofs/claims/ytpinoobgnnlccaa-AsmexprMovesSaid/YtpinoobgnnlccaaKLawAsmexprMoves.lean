/- The law emulator.AsmexprMoves: it answers true for every input that can be read, and leaves its arguments as they were. Conditions: none. -/
import Derived.Test.YtpinoobgnnlccaaRows
import Derived.Test.YtpinoobgnnlccaaKAx26
import Derived.Test.YtpinoobgnnlccaaKOpenSrc
import Derived.Test.YtpinoobgnnlccaaKOpen
import Derived.WalkKit
import Derived.ProofKit
import Derived.OpenShut
import Derived.ShutString
import Derived.ChangeOld
import Derived.Below
import Derived.SizedLaws
/- The law emulator.AsmexprMoves: it answers true for every input that can be read, and leaves its arguments as they were. Conditions: none. -/
namespace Go.Proofs.Ytpinoobgnnlccaa.asmexprMoves
open Go.ChangeShapes Go.WideShapes Go.ChangeAt Go.RowKit
open Go.ChangeMaps (open_string shut_string)
open Go.Proofs.Ytpinoobgnnlccaa.Open
set_option linter.unusedVariables false
theorem own : ownKnob Try.prog.godebug = none := by kernel_rfl
theorem laidOut : laidOutB Try.prog = true := by kernel_rfl
set_option maxRecDepth 100000 in
theorem lifted (os : Os) (started : os.Started) (H : Type) (enc : TypeId × Value → H) :
    ReturnsInHanded {} Try.checked os 6 .any (Rows.asmexprMovesSpec.pre6 enc Try.prog Try.f6 Rows.asmexprMovesRow.domain false) (Rows.asmexprMovesSpec.post enc Try.prog Try.f6 false true false false) := by
  refine returnsInHanded_of_change_sized (C := Try.checked) own started (by kernel_rfl) Try.func6
    (ChangeSpec.witness6 (enc := enc) (C := Try.checked) false ⟨#[], #[.agg #[.slice none 0 0, .int .i64 0, .int .i64 0, .string ByteArray.empty, .int .i64 0], .slice none 0 0, .int .u16 0], []⟩ 8 (by kernel_rfl) (by kernel_rfl) (by kernel_rfl) (by kernel_rfl)) ?_
  intro W base args ds gs before hval0 hW hcnd hsz0 _
  have hsz : (DataW.weightsEach Try.prog (Try.f6.params.toList ++ Rows.asmexprMovesSpec.plain.varTypes Try.prog) (ds ++ gs)).all (· ≤ reachBytes) = true := hsz0
  have hval : ∀ (j : Nat) t v, Try.f6.params[j]? = some t → args[j]? = some v → Value.okWide Try.prog W .any base t v := hval0
  have hW' := hW
  obtain ⟨p, q, hA0, hV, rfl, hfz, hnd⟩ := hW
  have hA : DataW.TrodAll enc Try.prog W 0 (fun _ => true) true Try.f6.params.toList args.toList ds p := hA0
  rw [Try.params6] at hA hval hsz
  obtain ⟨v0, vs0, d0, ds0, p0, q0, hargs, rfl, rfl, h0, r0⟩ := trodAll_cons hA
  obtain ⟨v1, vs1, d1, ds1, p1, q1, rfl, rfl, rfl, h1, r1⟩ := trodAll_cons r0
  obtain ⟨v2, vs2, d2, ds2, p2, q2, rfl, rfl, rfl, h2, r2⟩ := trodAll_cons r1
  obtain ⟨rfl, rfl, rfl⟩ := trodAll_nil r2
  obtain rfl : args = #[v0, v1, v2] := by cases args; simp_all
  obtain ⟨rfl, rfl⟩ := trodVars_none hV
  have k0 := h0
  have lt0 : ∀ x ∈ p0, x.block < W.heap.size := by obtain ⟨m, hm⟩ := k0; exact DataW.trod_lt m _ _ _ hm
  obtain ⟨c0_0, c0_1, c0_2, c0_3, c0_4, n0, m0, y0_0, y0_1, z0_0, z0_1, z0_2, rfl, t0_0, t0_1, t0_2, t0_3, t0_4⟩ := open_src Try.underlying26 Try.underlying24 (by kernel_rfl) ⟨rfl, rfl, rfl⟩ (by kernel_rfl) (by kernel_rfl) (by kernel_rfl) (by kernel_rfl) (hval 0 26 v0 rfl rfl) h0
  obtain ⟨A0_0, len0, cap0_0, rfl, hle0_0, hcap0, hrow0⟩ := open_rows_t Try.underlying22 Try.underlying38 (by kernel_rfl) (by kernel_rfl) t0_0
  obtain ⟨l0_0, hlen0, hl0⟩ := list_of (R := fun i (x : A.S38) => ∃ ad, A0_0 = some ad ∧ ∀ (j : Nat) (u : Value), ([.int .i64 x.f0, .string x.f1, .int .i64 x.f2, .int .i64 x.f3] : List Value)[j]? = some u → W.cell? (ad.add (i * 4 + j)) = some u) len0 (fun i hi => by
    obtain ⟨ad, cs, hA, hlen, hcell, hf⟩ := hrow0 i hi
    obtain ⟨c0, c1, c2, c3, rfl⟩ := len4 hlen
    obtain ⟨n0, y0, t0⟩ := hf 0 _ _ rfl rfl
    obtain ⟨a0, e0, _, _⟩ := DataW.trod_int Try.underlying3 t0
    obtain rfl : c0 = .int .i64 a0 := by simpa using e0
    obtain ⟨n1, y1, t1⟩ := hf 1 _ _ rfl rfl
    obtain ⟨a1, e1, _, _⟩ := DataW.trod_string Try.underlying9 t1
    obtain rfl : c1 = .string a1 := by simpa using e1
    obtain ⟨n2, y2, t2⟩ := hf 2 _ _ rfl rfl
    obtain ⟨a2, e2, _, _⟩ := DataW.trod_int Try.underlying3 t2
    obtain rfl : c2 = .int .i64 a2 := by simpa using e2
    obtain ⟨n3, y3, t3⟩ := hf 3 _ _ rfl rfl
    obtain ⟨a3, e3, _, _⟩ := DataW.trod_int Try.underlying3 t3
    obtain rfl : c3 = .int .i64 a3 := by simpa using e3
    exact ⟨⟨a0, a1, a2, a3⟩, ad, hA, hcell⟩)
  subst hlen0
  have hr0_0 : Go.Proofs.YtpinoobgnnlccaaW.PrintWords.Kd.C A.k38 W A0_0 l0_0.length l0_0 := by
    refine ⟨rfl, by unfold maxLen at hcap0; omega, fun hn => ?_⟩
    obtain ⟨ad, hA, _⟩ := hl0 0 _ (List.getElem?_eq_getElem hn)
    refine ⟨ad, hA, fun j x hj => ⟨_, rfl, A.k38_mk W x, fun i u hu => ?_⟩⟩
    obtain ⟨ad', hA', hc⟩ := hl0 j x hj
    obtain rfl : ad = ad' := Option.some.inj (hA.symm.trans hA')
    exact hc i u hu
  obtain ⟨a0_1, e0_1, _, w0_1⟩ := DataW.trod_int Try.underlying3 t0_1
  obtain rfl : c0_1 = .int .i64 a0_1 := by simpa using e0_1
  obtain ⟨a0_2, e0_2, _, w0_2⟩ := DataW.trod_int Try.underlying3 t0_2
  obtain rfl : c0_2 = .int .i64 a0_2 := by simpa using e0_2
  obtain ⟨a0_3, e0_3, _, w0_3⟩ := DataW.trod_string Try.underlying9 t0_3
  obtain rfl : c0_3 = .string a0_3 := by simpa using e0_3
  obtain ⟨a0_4, e0_4, _, w0_4⟩ := DataW.trod_int Try.underlying3 t0_4
  obtain rfl : c0_4 = .int .i64 a0_4 := by simpa using e0_4
  have k1 := h1
  have lt1 : ∀ x ∈ p1, x.block < W.heap.size := by obtain ⟨m, hm⟩ := k1; exact DataW.trod_lt m _ _ _ hm
  obtain ⟨A1, len1, cap1, rfl, hle1, hcap1, hrow1⟩ := open_rows Try.underlying27 Try.underlying44 (by kernel_rfl) (by kernel_rfl) (hval 1 27 v1 rfl rfl) h1
  obtain ⟨l1, hlen1, hl1⟩ := list_of (R := fun i (x : A.S44) => ∃ ad, A1 = some ad ∧ ∀ (j : Nat) (u : Value), ([.string x.f0, .int .i64 x.f1, .int .i64 x.f2, .bool x.f3] : List Value)[j]? = some u → W.cell? (ad.add (i * 4 + j)) = some u) len1 (fun i hi => by
    obtain ⟨ad, cs, hA, hlen, hcell, hf⟩ := hrow1 i hi
    obtain ⟨c0, c1, c2, c3, rfl⟩ := len4 hlen
    obtain ⟨n0, y0, t0⟩ := hf 0 _ _ rfl rfl
    obtain ⟨a0, e0, _, _⟩ := DataW.trod_string Try.underlying9 t0
    obtain rfl : c0 = .string a0 := by simpa using e0
    obtain ⟨n1, y1, t1⟩ := hf 1 _ _ rfl rfl
    obtain ⟨a1, e1, _, _⟩ := DataW.trod_int Try.underlying3 t1
    obtain rfl : c1 = .int .i64 a1 := by simpa using e1
    obtain ⟨n2, y2, t2⟩ := hf 2 _ _ rfl rfl
    obtain ⟨a2, e2, _, _⟩ := DataW.trod_int Try.underlying3 t2
    obtain rfl : c2 = .int .i64 a2 := by simpa using e2
    obtain ⟨n3, y3, t3⟩ := hf 3 _ _ rfl rfl
    obtain ⟨a3, e3, _⟩ := DataW.trod_bool Try.underlying4 t3
    obtain rfl : c3 = .bool a3 := by simpa using e3
    exact ⟨⟨a0, a1, a2, a3⟩, ad, hA, hcell⟩)
  subst hlen1
  have hr1 : Go.Proofs.YtpinoobgnnlccaaW.PrintWords.Kd.C A.k44 W A1 l1.length l1 := by
    refine ⟨rfl, by unfold maxLen at hcap1; omega, fun hn => ?_⟩
    obtain ⟨ad, hA, _⟩ := hl1 0 _ (List.getElem?_eq_getElem hn)
    refine ⟨ad, hA, fun j x hj => ⟨_, rfl, A.k44_mk W x, fun i u hu => ?_⟩⟩
    obtain ⟨ad', hA', hc⟩ := hl1 j x hj
    obtain rfl : ad = ad' := Option.some.inj (hA.symm.trans hA')
    exact hc i u hu
  obtain ⟨a2, rfl, rfl, rfl, w2⟩ := open_int Try.underlying41 (hval 2 41 v2 rfl rfl) h2
  clear hA0 hval0 hsz0 hsz
  refine (A.emulatorlaw26_AsmexprMoves.calls 2000 A0_0 cap0_0 l0_0 a0_1 a0_2 a0_3 a0_4 A1 cap1 l1 a2 true W hr0_0 hle0_0 hr1 hle1 (A.moves_true l0_0 a0_1 (a0_2, a0_3, a0_4) l1 a2) rfl).mono fun e W' ⟨he, bel⟩ => ?_
  subst he
  exact ⟨_, rfl, _, _, _, [], _, [], hW', trodAll_mk1 (shut_bool Try.underlying4 _), (trodAll_cons_mk (Below.trod laidOut (by kernel_rfl) (of_decide_eq_true (by kernel_rfl)) k0 bel lt0) (trodAll_cons_mk (Below.trod laidOut (by kernel_rfl) (of_decide_eq_true (by kernel_rfl)) k1 bel lt1) (trodAll_cons_mk (shut_int Try.underlying41 w2) trodAll_mk0))), rfl, bel.frame _, fun h => by cases h⟩
theorem over : Rows.asmexprMovesRow.holds Try.pinned (OpenSpec.ofChange Rows.asmexprMovesSpec) :=
  OpenClaim.holds_of_wide 6 Try.f6 rfl rfl rfl rfl rfl rfl rfl ⟨rfl, rfl, rfl, rfl, rfl⟩ rfl rfl rfl rfl rfl (by kernel_rfl) Try.func6 (by kernel_rfl)
    (of_decide_eq_true (by kernel_rfl)) (by unfold Func.isWrapper; first | (rw [if_pos (by decide +kernel)]; kernel_rfl) | (rw [if_neg (by decide +kernel)]; exact ⟨rfl, rfl⟩))
    (fun os started H enc _ => lifted os started H enc)
theorem proved : Rows.AsmexprMovesSaid := over
#print axioms proved
end Go.Proofs.Ytpinoobgnnlccaa.asmexprMoves
namespace Go.Proofs.Ytpinoobgnnlccaa
/-- The row, under a short name, for the claim. -/
theorem asmexprMoves_holds : Rows.AsmexprMovesSaid := asmexprMoves.proved
end Go.Proofs.Ytpinoobgnnlccaa
