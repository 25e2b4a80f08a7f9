/-
PrintingBlurs, over numbers and rows alone: Blur and its reference answer the same. Conditions: none.
-/
import Derived.Test.YtbipbbckfmilfaaStmtPrintingBlurs
import Derived.Test.YtbipbbckfmilfaaXRefBlur
namespace Go.Proofs.Ytbipbbckfmilfaa.Pure
set_option linter.unusedVariables false
set_option linter.unusedSimpArgs false
open Go.RowKit Go.Proofs.Ytbipbbckfmilfaa.PR Go.Proofs.YtbipbbckfmilfaaW.PrintWords Go.Proofs.YtbipbbckfmilfaaW.PrintLast Go.Proofs.YtbipbbckfmilfaaW.PrintMore Go.Proofs.Ytbipbbckfmilfaa.XWords Go.Proofs.Ytbipbbckfmilfaa.XPure

theorem PrintingBlurs : barscanlaw43_PrintingBlurs.Pure := by
  intro w h l r hw hh hl hx hr
  refine Ev.rounds (g := fun k => barscanlaw43_PrintingBlurs.f k w h l r) ?_
  have he : Ev (fun k => (barscanlaw43_examples.f k).bind fun t => some t) true := Ev.bind examples_ok (Ev.now _)
  unfold barscanlaw43_PrintingBlurs.f
  by_cases B : (l.length : Int) > 1000
  · simp only [if_pos B]
    exact he
  · simp only [if_neg B]
    have hx' : ∀ x ∈ l, 0 ≤ x ∧ x ≤ 255 := fun x m => wf_u8 (hx x m)
    have same : ∀ (W H : Int) (L : List Int) (e : Int), L.length ≤ 4194304 → Ev (fun k => (barscanlaw43_equal.f k W H L W H L).bind fun t => if t = true then (if e = e then (barscanlaw43_examples.f k).bind fun t => some t else none) else none) true := by
      intro W H L e hL
      refine Ev.bind (equal43_self hL) ?_
      simp only [if_true]
      exact he
    by_cases V : Valid w h l.length
    · have hl2 := V.2
      obtain ⟨G1, G2, G3, G4, G5⟩ := id V.1
      by_cases R : 0 ≤ r ∧ r ≤ 64
      · exact Ev.bind (blur_ok V hx' R.1 R.2) (Ev.bind (refBlur_ok V hx' R.1 R.2) (same _ _ _ _ (by rw [upto_length]; omega)))
      · exact Ev.bind ⟨0, fun k _ => blur_range V R k⟩ (Ev.bind (refBlur_range V R) (same _ _ _ _ (by simp)))
    · exact Ev.bind ⟨0, fun k _ => blur_bad V k⟩ (Ev.bind ⟨0, fun k _ => refBlur_bad V k⟩ (same _ _ _ _ (by simp)))
end Go.Proofs.Ytbipbbckfmilfaa.Pure
