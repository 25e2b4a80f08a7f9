/-
MorphologyErodes, over numbers and rows alone: Erode and Dilate and their references answer the same. Conditions: none.
-/
import Derived.Test.YtkakiblnhgpdnaaStmtMorphologyErodes
import Derived.Test.YtkakiblnhgpdnaaXRef37
namespace Go.Proofs.Ytkakiblnhgpdnaa.Pure
set_option linter.unusedVariables false
set_option linter.unusedSimpArgs false
open Go.RowKit Go.Proofs.Ytkakiblnhgpdnaa.PR Go.Proofs.YtkakiblnhgpdnaaW.PrintWords Go.Proofs.YtkakiblnhgpdnaaW.PrintLast Go.Proofs.YtkakiblnhgpdnaaW.PrintMore Go.Proofs.Ytkakiblnhgpdnaa.XWords Go.Proofs.Ytkakiblnhgpdnaa.XPure

theorem whole_min {w h r s : Int} {D : Int → Int → Prop} (hD : ∀ u v, D u v → 0 ≤ u ∧ u < w ∧ 0 ≤ v ∧ v < h) (hr : 0 ≤ r) (hs : 0 ≤ s) {x y : Int} (hx0 : 0 ≤ x) (hx : x < w) (hy0 : 0 ≤ y) (hy : y < h) : Whole (min r w) (min s h) D x y ↔ Whole r s D x y := by
  by_cases hc : r ≤ w ∧ s ≤ h
  · have e1 : min r w = r := by omega
    have e2 : min s h = s := by omega
    rw [e1, e2]
  · constructor
    · intro hh
      exfalso
      have h1 := hD _ _ (hh (x - min r w) y (by omega) (by omega) (by omega) (by omega))
      have h2 := hD _ _ (hh x (y - min s h) (by omega) (by omega) (by omega) (by omega))
      omega
    · intro hh u v a b c d
      exact hh u v (by omega) (by omega) (by omega) (by omega)
theorem part_min {w h r s : Int} {D : Int → Int → Prop} (hD : ∀ u v, D u v → 0 ≤ u ∧ u < w ∧ 0 ≤ v ∧ v < h) (hr : 0 ≤ r) (hs : 0 ≤ s) {x y : Int} (hx0 : 0 ≤ x) (hx : x < w) (hy0 : 0 ≤ y) (hy : y < h) : Part (min r w) (min s h) D x y ↔ Part r s D x y := by
  constructor
  · rintro ⟨u, v, a, b, c, d, hp⟩
    exact ⟨u, v, by omega, by omega, by omega, by omega, hp⟩
  · rintro ⟨u, v, a, b, c, d, hp⟩
    have := hD u v hp
    exact ⟨u, v, by omega, by omega, by omega, by omega, hp⟩
theorem MorphologyErodes : barscanlaw37_MorphologyErodes.Pure := by
  intro w h l r s hw hh hl hr hs
  refine Ev.rounds (g := fun k => barscanlaw37_MorphologyErodes.f k w h l r s) ?_
  have he : Ev (fun k => (barscanlaw37_examples.f k).bind fun t => some t) true := Ev.bind examples_ok (Ev.now _)
  unfold barscanlaw37_MorphologyErodes.f
  by_cases B : (l.length : Int) > 1000
  · simp only [if_pos B]
    exact he
  simp only [if_neg B]
  obtain ⟨T1, a1, a2, a3⟩ : ∃ T : Int × Int × List Bool × Int, Ev (fun k => morphology_Erode.f k w h l r s) T ∧ Ev (fun k => barscanref37_Erode.f k w h l r s) T ∧ T.2.2.1.length ≤ 4194304 := by
    by_cases O : Valid w h l.length ∧ Rad r ∧ Rad s
    · obtain ⟨V, R, S⟩ := O
      obtain ⟨L, hL, hE⟩ := erode_ok V R S
      have hX : Shows w h (upto w (fun x y => (around (pix false w h l) r s x y == (2 * r + 1) * (2 * s + 1))) (w * h).toNat) (Whole r s (Dk w h l)) := shows_upto V.1.1 V.1.2.2.1 (fun x y _ _ _ _ => ero_iff R S)
      have e := shows_eq V.1.1 hL hX (fun x y a b c d => whole_min (fun u v hd => dk_in hd) R.1 S.1 a b c d)
      refine ⟨_, hE, ?_, ?_⟩
      · rw [e]; exact refErode_ok V R S
      · have := hL.len; have := V.2; have := V.1.2.2.2.2; show L.length ≤ _; omega
    · exact ⟨_, (op_bad O).1, ⟨0, fun k _ => (refOp_bad O).1 k⟩, by simp⟩
  obtain ⟨T2, b1, b2, b3⟩ : ∃ T : Int × Int × List Bool × Int, Ev (fun k => morphology_Dilate.f k w h l r s) T ∧ Ev (fun k => barscanref37_Dilate.f k w h l r s) T ∧ T.2.2.1.length ≤ 4194304 := by
    by_cases O : Valid w h l.length ∧ Rad r ∧ Rad s
    · obtain ⟨V, R, S⟩ := O
      obtain ⟨L, hL, hE⟩ := dilate_ok V R S
      have hX : Shows w h (upto w (fun x y => decide (around (pix false w h l) r s x y > 0)) (w * h).toNat) (Part r s (Dk w h l)) := shows_upto V.1.1 V.1.2.2.1 (fun x y _ _ _ _ => dil_iff R S)
      have e := shows_eq V.1.1 hL hX (fun x y a b c d => part_min (fun u v hd => dk_in hd) R.1 S.1 a b c d)
      refine ⟨_, hE, ?_, ?_⟩
      · rw [e]; exact refDilate_ok V R S
      · have := hL.len; have := V.2; have := V.1.2.2.2.2; show L.length ≤ _; omega
    · exact ⟨_, (op_bad O).2.1, ⟨0, fun k _ => (refOp_bad O).2 k⟩, by simp⟩
  refine Ev.bind a1 (Ev.bind a2 (Ev.bind b1 (Ev.bind b2 (Ev.bind (same_self _ _ _ a3) ?_))))
  simp only [if_true]
  refine Ev.bind (same_self _ _ _ b3) ?_
  simp only [if_true]
  exact he
end Go.Proofs.Ytkakiblnhgpdnaa.Pure
