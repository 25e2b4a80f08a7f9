/-
MorphologyMajority, over numbers and rows alone: Majority and Outline and their references answer the same. Conditions: none.
-/
import Derived.Test.YtkakiblnhgpdnaaStmtMorphologyMajority
import Derived.Test.YtkakiblnhgpdnaaXRefEdge
namespace Go.Proofs.Ytkakiblnhgpdnaa.Pure
set_option linter.unusedVariables false
set_option linter.unusedSimpArgs false
open Go.RowKit Go.Proofs.Ytkakiblnhgpdnaa.PR Go.Proofs.YtkakiblnhgpdnaaW.PrintWords Go.Proofs.YtkakiblnhgpdnaaW.PrintLast Go.Proofs.YtkakiblnhgpdnaaW.PrintMore Go.Proofs.Ytkakiblnhgpdnaa.XWords Go.Proofs.Ytkakiblnhgpdnaa.XPure
theorem MorphologyMajority : barscanlaw37_MorphologyMajority.Pure := by
  intro w h l r hw hh hl hr
  refine Ev.rounds (g := fun k => barscanlaw37_MorphologyMajority.f k w h l r) ?_
  have he : Ev (fun k => (barscanlaw37_examples.f k).bind fun t => some t) true := Ev.bind examples_ok (Ev.now _)
  unfold barscanlaw37_MorphologyMajority.f
  by_cases B : (l.length : Int) > 1000
  · simp only [if_pos B]
    exact he
  simp only [if_neg B]
  obtain ⟨T1, a1, a2, a3⟩ : ∃ T : Int × Int × List Bool × Int, Ev (fun k => morphology_Majority.f k w h l r) T ∧ Ev (fun k => barscanref37_Majority.f k w h l r) T ∧ T.2.2.1.length ≤ 4194304 := by
    by_cases O : Valid w h l.length ∧ Rad r
    · obtain ⟨V, R⟩ := O
      have hb := V.1.2.2.2.2
      refine ⟨_, majority_ok V R, ?_, ?_⟩
      · have e : upto w (fun x y => fence w h (fun x y => decide (2 * around (pix false w h l) r r x y > (2 * r + 1) * (2 * r + 1))) (x + 0) (y + 0)) (w * h).toNat = upto w (fun x y => decide (2 * around (pix false w h l) r r x y > (2 * r + 1) * (2 * r + 1))) (w * h).toNat := by
          obtain ⟨G1, G2, G3, G4, G5⟩ := id V.1
          refine upto_congr (fun i hi => ?_)
          have hi2 : (i : Int) < w * h := by omega
          have m0 := Int.emod_nonneg (i : Int) (show w ≠ 0 by omega)
          have m1 := Int.emod_lt_of_pos (i : Int) (show 0 < w by omega)
          have m2 : 0 ≤ (i : Int) / w := Int.ediv_nonneg (by omega) (by omega)
          have m3 : (i : Int) / w < h := div_lt (by omega) hi2
          rw [Int.add_zero, Int.add_zero, fence_in m0 m1 m2 m3]
        rw [e]
        exact refMajority_ok V R
      · simp only [upto_length]
        have := V.2
        omega
    · exact ⟨_, majority_bad O, ⟨0, fun k _ => refMajority_bad O k⟩, by simp⟩
  obtain ⟨T2, b1, b2, b3⟩ : ∃ T : Int × Int × List Bool × Int, Ev (fun k => morphology_Outline.f k w h l) T ∧ Ev (fun k => barscanref37_Outline.f k w h l) T ∧ T.2.2.1.length ≤ 4194304 := by
    by_cases V : Valid w h l.length
    · obtain ⟨L, hL, hE⟩ := outline_ok V
      have hX : Shows w h (upto w (fun x y => pix false w h l x y && !inn w h l x y) (w * h).toNat) (fun x y => Dk w h l x y ∧ ¬ inn w h l x y = true) := shows_upto V.1.1 V.1.2.2.1 (fun x y _ _ _ _ => by
        unfold Dk
        cases pix false w h l x y <;> cases inn w h l x y <;> simp)
      have e := shows_eq V.1.1 hL hX (fun x y a b c d => Iff.rfl)
      refine ⟨_, hE, ?_, ?_⟩
      · rw [e]; exact refOutline_ok V
      · have := hL.len; have := V.2; show L.length ≤ _; omega
    · exact ⟨_, outline_bad V, ⟨0, fun k _ => refOutline_bad V k⟩, by simp⟩
  refine Ev.bind a1 (Ev.bind a2 (Ev.bind b1 (Ev.bind b2 (Ev.bind (same_self _ _ _ a3) ?_))))
  simp only [if_true]
  refine Ev.bind (same_self _ _ _ b3) ?_
  simp only [if_true]
  exact he
end Go.Proofs.Ytkakiblnhgpdnaa.Pure
