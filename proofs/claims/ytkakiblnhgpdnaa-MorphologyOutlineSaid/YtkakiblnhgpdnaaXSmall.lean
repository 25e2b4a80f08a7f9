/-
The bitmaps that are valid and small. Conditions: as each theorem says.
-/
import Derived.Test.YtkakiblnhgpdnaaXOps
import Derived.Test.YtkakiblnhgpdnaaPRx21
namespace Go.Proofs.Ytkakiblnhgpdnaa.Pure
set_option linter.unusedVariables false
set_option linter.unusedSimpArgs false
open Go.RowKit Go.Proofs.Ytkakiblnhgpdnaa.PR Go.Proofs.YtkakiblnhgpdnaaW.PrintWords Go.Proofs.YtkakiblnhgpdnaaW.PrintLast Go.Proofs.YtkakiblnhgpdnaaW.PrintMore Go.Proofs.Ytkakiblnhgpdnaa.XWords Go.Proofs.Ytkakiblnhgpdnaa.XPure
/-- valid answers something, and what it lets through is valid and small. -/
theorem small_eq (w h : Int) (l : List Bool) : ∃ b, barscanlaw37_valid.f w h l = some b ∧ (b = true → Valid w h l.length ∧ w ≤ 1000 ∧ h ≤ 1000 ∧ w * h ≤ 1000) := by
  unfold barscanlaw37_valid.f
  by_cases h1 : w ≥ 1
  · by_cases h2 : w ≤ 1000
    · by_cases h3 : h ≥ 1
      · by_cases h4 : h ≤ 1000
        · have hb : 1 * 1 ≤ w * h := Int.mul_le_mul h1 h3 (by omega) (by omega)
          have hc : w * h ≤ 1000 * 1000 := Int.mul_le_mul h2 h4 (by omega) (by omega)
          rw [if_pos h1, if_pos h2, if_pos h3, if_pos h4, w64 (n := w * h) (by omega)]
          by_cases h5 : w * h ≤ 1000
          · rw [if_pos h5]
            refine ⟨_, rfl, fun hb => ?_⟩
            rw [beq_iff_eq] at hb
            exact ⟨⟨⟨h1, by omega, h3, by omega, by omega⟩, hb⟩, h2, h4, h5⟩
          · rw [if_neg h5]
            exact ⟨_, rfl, fun hb => by cases hb⟩
        · rw [if_pos h1, if_pos h2, if_pos h3, if_neg h4]
          exact ⟨_, rfl, fun hb => by cases hb⟩
      · rw [if_pos h1, if_pos h2, if_neg h3]
        exact ⟨_, rfl, fun hb => by cases hb⟩
    · rw [if_pos h1, if_neg h2]
      exact ⟨_, rfl, fun hb => by cases hb⟩
  · rw [if_neg h1]
    exact ⟨_, rfl, fun hb => by cases hb⟩
end Go.Proofs.Ytkakiblnhgpdnaa.Pure
