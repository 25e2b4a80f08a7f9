/-
MorphologyOpens, over numbers and rows alone: Open and Close and their references answer the same. Conditions: none.
-/
import Derived.Test.YtkakiblnhgpdnaaStmtMorphologyOpens
import Derived.Test.YtkakiblnhgpdnaaXRefClose
namespace Go.Proofs.Ytkakiblnhgpdnaa.Pure
set_option linter.unusedVariables false
set_option linter.unusedSimpArgs false
open Go.RowKit Go.Proofs.Ytkakiblnhgpdnaa.PR Go.Proofs.YtkakiblnhgpdnaaW.PrintWords Go.Proofs.YtkakiblnhgpdnaaW.PrintLast Go.Proofs.YtkakiblnhgpdnaaW.PrintMore Go.Proofs.Ytkakiblnhgpdnaa.XWords Go.Proofs.Ytkakiblnhgpdnaa.XPure
theorem MorphologyOpens : barscanlaw37_MorphologyOpens.Pure := by
  intro w h l r s hw hh hl hr hs
  refine Ev.rounds (g := fun k => barscanlaw37_MorphologyOpens.f k w h l r s) ?_
  have he : Ev (fun k => (barscanlaw37_examples.f k).bind fun t => some t) true := Ev.bind examples_ok (Ev.now _)
  obtain ⟨T1, a1, a2, a3⟩ : ∃ T : Int × Int × List Bool × Int, Ev (fun k => morphology_Open.f k w h l r s) T ∧ Ev (fun k => barscanref37_Open.f k w h l r s) T ∧ T.2.2.1.length ≤ 4194304 := by
    by_cases O : Valid w h l.length ∧ Rad r ∧ Rad s
    · obtain ⟨V, R, S⟩ := O
      obtain ⟨L, hL, hE⟩ := open_ok V R S
      obtain ⟨M, hM, hF⟩ := refOpen_ok V R S
      have e := shows_eq V.1.1 hL hM (fun x y a b c d => open_min (fun u v hd => dk_in hd) V.1.1 V.1.2.2.1 R.1 S.1)
      refine ⟨_, hE, ?_, ?_⟩
      · rw [e]; exact hF
      · have := hL.len; have := V.2; have := V.1.2.2.2.2; show L.length ≤ _; omega
    · exact ⟨_, (op_bad O).2.2.1, (refOpen_bad O).1, by simp⟩
  obtain ⟨T2, b1, b2, b3⟩ : ∃ T : Int × Int × List Bool × Int, Ev (fun k => morphology_Close.f k w h l r s) T ∧ Ev (fun k => barscanref37_Close.f k w h l r s) T ∧ T.2.2.1.length ≤ 4194304 := by
    by_cases O : Valid w h l.length ∧ Rad r ∧ Rad s
    · obtain ⟨V, R, S⟩ := O
      obtain ⟨L, hL, hE⟩ := close_ok V R S
      have hM : Shows w h (upto w (fun x y => @decide (Whole r s (Part r s (Dk w h l)) x y) (Classical.propDecidable _)) (w * h).toNat) (Whole r s (Part r s (Dk w h l))) := shows_upto V.1.1 V.1.2.2.1 (fun x y _ _ _ _ => @decide_eq_true_iff _ (Classical.propDecidable _))
      have e := shows_eq V.1.1 hL hM (fun x y a b c d => close_min (fun u v hd => dk_in hd) R.1 S.1 a b c d)
      refine ⟨_, hE, ?_, ?_⟩
      · rw [e]; exact refClose_ok V R S
      · have := hL.len; have := V.2; have := V.1.2.2.2.2; show L.length ≤ _; omega
    · exact ⟨_, (op_bad O).2.2.2, ⟨0, fun k _ => (refOpen_bad O).2 k⟩, by simp⟩
  unfold barscanlaw37_MorphologyOpens.f barscanlaw37_moderate.f
  by_cases B : (l.length : Int) > 400
  · simp only [if_pos B]
    exact he
  simp only [if_neg B]
  have m1 : (if r ≤ 5 then some true else some (decide (r > 4096))) = some (decide (r ≤ 5 ∨ r > 4096)) := by by_cases h1 : r ≤ 5 <;> simp [h1]
  have m2 : (if s ≤ 5 then some true else some (decide (s > 4096))) = some (decide (s ≤ 5 ∨ s > 4096)) := by by_cases h1 : s ≤ 5 <;> simp [h1]
  rw [m1, m2]
  simp only [Option.bind_some]
  by_cases M1 : decide (r ≤ 5 ∨ r > 4096) = true
  · simp only [if_pos M1]
    by_cases M2 : decide (s ≤ 5 ∨ s > 4096) = true
    · simp only [if_pos M2]
      refine Ev.bind a1 (Ev.bind a2 (Ev.bind b1 (Ev.bind b2 (Ev.bind (same_self _ _ _ a3) ?_))))
      simp only [if_true]
      refine Ev.bind (same_self _ _ _ b3) ?_
      simp only [if_true]
      exact he
    · simp only [if_neg M2]
      exact he
  · simp only [if_neg M1]
    exact he
end Go.Proofs.Ytkakiblnhgpdnaa.Pure
