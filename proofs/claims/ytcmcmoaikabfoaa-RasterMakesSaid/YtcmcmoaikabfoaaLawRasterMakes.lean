/-
RasterMakes: the given statement, proved: for every input the law returns true and its arguments read as they did. Conditions: none.
-/
import Derived.Test.YtcmcmoaikabfoaaRows
import Derived.Test.YtcmcmoaikabfoaaPRx31
import Derived.Test.YtcmcmoaikabfoaaPureRasterMakes
import Derived.Test.YtcmcmoaikabfoaaXRow
import Derived.WalkKit
import Derived.ProofKit
import Derived.OpenShut
import Derived.ShutString
import Derived.ChangeOld
import Derived.Below
import Derived.SizedLaws
namespace Go.Proofs.Ytcmcmoaikabfoaa.rasterMakes
open Go.ChangeShapes Go.WideShapes Go.ChangeAt Go.Joins Go.RowKit Go.Proofs.YtcmcmoaikabfoaaW.PrintWords
open Go.ChangeMaps (open_string shut_string)
set_option linter.unusedVariables false
theorem own : ownKnob Try.prog.godebug = none := by kernel_rfl
theorem laidOut : laidOutB Try.prog = true := by kernel_rfl
set_option maxRecDepth 100000 in
theorem lifted (os : Os) (started : os.Started) (H : Type) (enc : TypeId × Value → H) :
    ReturnsInHanded {} Try.checked os 10 .any (Rows.rasterMakesSpec.pre6 enc Try.prog Try.f10 Rows.rasterMakesRow.domain false) (Rows.rasterMakesSpec.post enc Try.prog Try.f10 false true false false) := by
  refine returnsInHanded_of_change_sized (C := Try.checked) own started (by kernel_rfl) Try.func10
    (ChangeSpec.witness6 (enc := enc) (C := Try.checked) false ⟨#[], #[.agg #[.int .i64 0, .int .i64 0, .slice none 0 0], .agg #[.int .i64 0, .int .i64 0, .slice none 0 0], .agg #[.int .i64 0, .int .i64 0, .slice none 0 0], .agg #[.int .i64 0, .int .i64 0, .slice none 0 0], .int .i64 0, .int .i64 0], []⟩ 8 (by kernel_rfl) (by kernel_rfl) (by kernel_rfl) (by kernel_rfl)) ?_
  intro W base args ds gs before hval0 hW hcnd hsz0 _
  have hsz : (DataW.weightsEach Try.prog (Try.f10.params.toList ++ Rows.rasterMakesSpec.plain.varTypes Try.prog) (ds ++ gs)).all (· ≤ reachBytes) = true := hsz0
  have hval : ∀ (j : Nat) t v, Try.f10.params[j]? = some t → args[j]? = some v → Value.okWide Try.prog W .any base t v := hval0
  have hW' := hW
  obtain ⟨p, q, hA0, hV, rfl, hfz, hnd⟩ := hW
  have hA : DataW.TrodAll enc Try.prog W 0 (fun _ => true) true Try.f10.params.toList args.toList ds p := hA0
  rw [Try.params10] at hA hval hsz
  obtain ⟨v0, vs0, d0, ds0, p0, q0, hargs, rfl, rfl, h0, r0⟩ := trodAll_cons hA
  obtain ⟨v1, vs1, d1, ds1, p1, q1, rfl, rfl, rfl, h1, r1⟩ := trodAll_cons r0
  obtain ⟨v2, vs2, d2, ds2, p2, q2, rfl, rfl, rfl, h2, r2⟩ := trodAll_cons r1
  obtain ⟨v3, vs3, d3, ds3, p3, q3, rfl, rfl, rfl, h3, r3⟩ := trodAll_cons r2
  obtain ⟨v4, vs4, d4, ds4, p4, q4, rfl, rfl, rfl, h4, r4⟩ := trodAll_cons r3
  obtain ⟨v5, vs5, d5, ds5, p5, q5, rfl, rfl, rfl, h5, r5⟩ := trodAll_cons r4
  obtain ⟨rfl, rfl, rfl⟩ := trodAll_nil r5
  obtain rfl : args = #[v0, v1, v2, v3, v4, v5] := by cases args; simp_all
  obtain ⟨rfl, rfl⟩ := trodVars_none hV
  have k0 := h0
  have lt0 : ∀ x ∈ p0, x.block < W.heap.size := by obtain ⟨m, hm⟩ := k0; exact DataW.trod_lt m _ _ _ hm
  obtain ⟨v0_0, v0_1, v0_2, y0_0, y0_1, y0_2, n0, rfl, _, _, f0_0, f0_1, f0_2⟩ := open_agg3 Try.underlying24 (by kernel_rfl) (by kernel_rfl) (hval 0 24 v0 rfl rfl) h0
  obtain ⟨a0_0, e0_0, _, w0_0⟩ := DataW.trod_int Try.underlying3 f0_0
  obtain rfl : v0_0 = .int .i64 a0_0 := by simpa using e0_0
  obtain ⟨a0_1, e0_1, _, w0_1⟩ := DataW.trod_int Try.underlying3 f0_1
  obtain rfl : v0_1 = .int .i64 a0_1 := by simpa using e0_1
  obtain ⟨A0_2, c0_2, l0_2, e0_2, hc0_2, hm0_2, hr0_2⟩ := XRow.trod_bools Try.underlying22 Try.underlying4 (by kernel_rfl) f0_2
  obtain rfl : v0_2 = .slice A0_2 l0_2.length c0_2 := by simpa using e0_2
  have k1 := h1
  have lt1 : ∀ x ∈ p1, x.block < W.heap.size := by obtain ⟨m, hm⟩ := k1; exact DataW.trod_lt m _ _ _ hm
  obtain ⟨v1_0, v1_1, v1_2, y1_0, y1_1, y1_2, n1, rfl, _, _, f1_0, f1_1, f1_2⟩ := open_agg3 Try.underlying24 (by kernel_rfl) (by kernel_rfl) (hval 1 24 v1 rfl rfl) h1
  obtain ⟨a1_0, e1_0, _, w1_0⟩ := DataW.trod_int Try.underlying3 f1_0
  obtain rfl : v1_0 = .int .i64 a1_0 := by simpa using e1_0
  obtain ⟨a1_1, e1_1, _, w1_1⟩ := DataW.trod_int Try.underlying3 f1_1
  obtain rfl : v1_1 = .int .i64 a1_1 := by simpa using e1_1
  obtain ⟨A1_2, c1_2, l1_2, e1_2, hc1_2, hm1_2, hr1_2⟩ := XRow.trod_bools Try.underlying22 Try.underlying4 (by kernel_rfl) f1_2
  obtain rfl : v1_2 = .slice A1_2 l1_2.length c1_2 := by simpa using e1_2
  have k2 := h2
  have lt2 : ∀ x ∈ p2, x.block < W.heap.size := by obtain ⟨m, hm⟩ := k2; exact DataW.trod_lt m _ _ _ hm
  obtain ⟨v2_0, v2_1, v2_2, y2_0, y2_1, y2_2, n2, rfl, _, _, f2_0, f2_1, f2_2⟩ := open_agg3 Try.underlying58 (by kernel_rfl) (by kernel_rfl) (hval 2 58 v2 rfl rfl) h2
  obtain ⟨a2_0, e2_0, _, w2_0⟩ := DataW.trod_int Try.underlying3 f2_0
  obtain rfl : v2_0 = .int .i64 a2_0 := by simpa using e2_0
  obtain ⟨a2_1, e2_1, _, w2_1⟩ := DataW.trod_int Try.underlying3 f2_1
  obtain rfl : v2_1 = .int .i64 a2_1 := by simpa using e2_1
  obtain ⟨A2_2, c2_2, l2_2, e2_2, hc2_2, hm2_2, hr2_2, hw2_2⟩ := XRow.trod_ints Try.underlying56 Try.underlying5 (by kernel_rfl) f2_2
  obtain rfl : v2_2 = .slice A2_2 l2_2.length c2_2 := by simpa using e2_2
  have k3 := h3
  have lt3 : ∀ x ∈ p3, x.block < W.heap.size := by obtain ⟨m, hm⟩ := k3; exact DataW.trod_lt m _ _ _ hm
  obtain ⟨v3_0, v3_1, v3_2, y3_0, y3_1, y3_2, n3, rfl, _, _, f3_0, f3_1, f3_2⟩ := open_agg3 Try.underlying58 (by kernel_rfl) (by kernel_rfl) (hval 3 58 v3 rfl rfl) h3
  obtain ⟨a3_0, e3_0, _, w3_0⟩ := DataW.trod_int Try.underlying3 f3_0
  obtain rfl : v3_0 = .int .i64 a3_0 := by simpa using e3_0
  obtain ⟨a3_1, e3_1, _, w3_1⟩ := DataW.trod_int Try.underlying3 f3_1
  obtain rfl : v3_1 = .int .i64 a3_1 := by simpa using e3_1
  obtain ⟨A3_2, c3_2, l3_2, e3_2, hc3_2, hm3_2, hr3_2, hw3_2⟩ := XRow.trod_ints Try.underlying56 Try.underlying5 (by kernel_rfl) f3_2
  obtain rfl : v3_2 = .slice A3_2 l3_2.length c3_2 := by simpa using e3_2
  obtain ⟨a4, rfl, rfl, rfl, w4⟩ := open_int Try.underlying3 (hval 4 3 v4 rfl rfl) h4
  obtain ⟨a5, rfl, rfl, rfl, w5⟩ := open_int Try.underlying3 (hval 5 3 v5 rfl rfl) h5
  clear hA0 hval0 hsz0 hsz
  obtain ⟨k, hk⟩ := Pure.RasterMakes a0_0 a0_1 l0_2 a1_0 a1_1 l1_2 a2_0 a2_1 l2_2 a3_0 a3_1 l3_2 a4 a5 w0_0 w0_1 hm0_2 w1_0 w1_1 hm1_2 w2_0 w2_1 hm2_2 hw2_2 w3_0 w3_1 hm3_2 hw3_2 w4 w5
  have hcall := PR.barscanlaw31_RasterMakes.calls k a0_0 a0_1 A0_2 c0_2 l0_2 a1_0 a1_1 A1_2 c1_2 l1_2 a2_0 a2_1 A2_2 c2_2 l2_2 a3_0 a3_1 A3_2 c3_2 l3_2 a4 a5 true W hr0_2 hc0_2 hr1_2 hc1_2 hr2_2 hc2_2 hr3_2 hc3_2 hk
  refine hcall.mono fun e W' ⟨he, bel⟩ => ?_
  subst he
  exact ⟨_, rfl, _, _, _, [], _, [], hW', trodAll_mk1 (shut_bool Try.underlying4 _), (trodAll_cons_mk (Below.trod laidOut (by kernel_rfl) (of_decide_eq_true (by kernel_rfl)) k0 bel lt0) (trodAll_cons_mk (Below.trod laidOut (by kernel_rfl) (of_decide_eq_true (by kernel_rfl)) k1 bel lt1) (trodAll_cons_mk (Below.trod laidOut (by kernel_rfl) (of_decide_eq_true (by kernel_rfl)) k2 bel lt2) (trodAll_cons_mk (Below.trod laidOut (by kernel_rfl) (of_decide_eq_true (by kernel_rfl)) k3 bel lt3) (trodAll_cons_mk (shut_int Try.underlying3 w4) (trodAll_cons_mk (shut_int Try.underlying3 w5) trodAll_mk0)))))), rfl, bel.frame _, fun h => by cases h⟩
theorem over : Rows.rasterMakesRow.holds Try.pinned (OpenSpec.ofChange Rows.rasterMakesSpec) :=
  OpenClaim.holds_of_wide 10 Try.f10 rfl rfl rfl rfl rfl rfl rfl ⟨rfl, rfl, rfl, rfl, rfl⟩ rfl rfl rfl rfl rfl (by kernel_rfl) Try.func10 (by kernel_rfl)
    (of_decide_eq_true (by kernel_rfl)) (by unfold Func.isWrapper; first | (rw [if_pos (by decide +kernel)]; kernel_rfl) | (rw [if_neg (by decide +kernel)]; exact ⟨rfl, rfl⟩))
    (fun os started H enc _ => lifted os started H enc)
theorem proved : Rows.RasterMakesSaid := over
#print axioms proved
end Go.Proofs.Ytcmcmoaikabfoaa.rasterMakes
namespace Go.Proofs.Ytcmcmoaikabfoaa
/-- The row, under a short name, for the claim. -/
theorem rasterMakes_holds : Rows.RasterMakesSaid := rasterMakes.proved
end Go.Proofs.Ytcmcmoaikabfoaa
