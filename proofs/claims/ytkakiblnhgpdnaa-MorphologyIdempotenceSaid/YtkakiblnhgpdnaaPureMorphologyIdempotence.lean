/-
MorphologyIdempotence, over numbers and rows alone: opening shrinks and closing extends a bitmap, and neither changes its own result. Conditions: none.
-/
import Derived.Test.YtkakiblnhgpdnaaStmtMorphologyIdempotence
import Derived.Test.YtkakiblnhgpdnaaXWithin
namespace Go.Proofs.Ytkakiblnhgpdnaa.Pure
set_option linter.unusedVariables false
set_option linter.unusedSimpArgs false
open Go.RowKit Go.Proofs.Ytkakiblnhgpdnaa.PR Go.Proofs.YtkakiblnhgpdnaaW.PrintWords Go.Proofs.YtkakiblnhgpdnaaW.PrintLast Go.Proofs.YtkakiblnhgpdnaaW.PrintMore Go.Proofs.Ytkakiblnhgpdnaa.XWords Go.Proofs.Ytkakiblnhgpdnaa.XPure
theorem open_within {r s : Int} {D : Int → Int → Prop} {x y : Int} (h : Part r s (Whole r s D) x y) : D x y := by
  obtain ⟨u, v, a, b, c, d, hp⟩ := h
  exact hp x y (by omega) (by omega) (by omega) (by omega)
theorem close_within {r s : Int} {D : Int → Int → Prop} {x y : Int} (h : D x y) : Whole r s (Part r s D) x y := fun u v a b c d => ⟨x, y, by omega, by omega, by omega, by omega, h⟩
theorem open_open {w h r s : Int} {D E : Int → Int → Prop} (hD : ∀ u v, D u v → 0 ≤ u ∧ u < w ∧ 0 ≤ v ∧ v < h) (hE : ∀ u v, E u v ↔ (0 ≤ u ∧ u < w ∧ 0 ≤ v ∧ v < h) ∧ Part r s (Whole r s D) u v) {x y : Int} : Part r s (Whole r s D) x y ↔ Part r s (Whole r s E) x y := by
  constructor
  · rintro ⟨u, v, a, b, c, d, hp⟩
    exact ⟨u, v, a, b, c, d, fun p q e f g i => (hE p q).2 ⟨hD p q (hp p q e f g i), u, v, by omega, by omega, by omega, by omega, hp⟩⟩
  · rintro ⟨u, v, a, b, c, d, hp⟩
    exact ⟨u, v, a, b, c, d, fun p q e f g i => open_within ((hE p q).1 (hp p q e f g i)).2⟩
theorem close_close {w h r s : Int} {D E : Int → Int → Prop} (hD : ∀ u v, D u v → 0 ≤ u ∧ u < w ∧ 0 ≤ v ∧ v < h) (hE : ∀ u v, E u v ↔ (0 ≤ u ∧ u < w ∧ 0 ≤ v ∧ v < h) ∧ Whole r s (Part r s D) u v) {x y : Int} : Whole r s (Part r s D) x y ↔ Whole r s (Part r s E) x y := by
  constructor
  · intro hh u v a b c d
    obtain ⟨p, q, e, f, g, i, hd⟩ := hh u v a b c d
    exact ⟨p, q, e, f, g, i, (hE p q).2 ⟨hD p q hd, close_within hd⟩⟩
  · intro hh u v a b c d
    obtain ⟨p, q, e, f, g, i, hp⟩ := hh u v a b c d
    exact ((hE p q).1 hp).2 u v (by omega) (by omega) (by omega) (by omega)
theorem MorphologyIdempotence : barscanlaw37_MorphologyIdempotence.Pure := by
  intro w h l r s hw hh hl hr hs
  refine Ev.rounds (g := fun k => barscanlaw37_MorphologyIdempotence.f k w h l r s) ?_
  have he : Ev (fun k => (barscanlaw37_examples.f k).bind fun t => some t) true := Ev.bind examples_ok (Ev.now _)
  unfold barscanlaw37_MorphologyIdempotence.f
  by_cases B : (l.length : Int) > 1000
  · simp only [if_pos B]
    exact he
  simp only [if_neg B]
  by_cases O : Valid w h l.length ∧ Rad r ∧ Rad s
  · obtain ⟨V, R, S⟩ := O
    have hV := V.1.2.2.2.2
    obtain ⟨L, hL, eL⟩ := open_ok V R S
    obtain ⟨M, hM, eM⟩ := close_ok V R S
    obtain ⟨L2, hL2, eL2⟩ := open_ok (shows_valid V hL) R S
    obtain ⟨M2, hM2, eM2⟩ := close_ok (shows_valid V hM) R S
    have sL : L.length ≤ 4194304 := by have := hL.len; omega
    have sM : M.length ≤ 4194304 := by have := hM.len; omega
    have e1 : L = L2 := shows_eq V.1.1 hL hL2 (fun x y _ _ _ _ => open_open (fun u v hd => dk_in hd) (fun u v => shows_dk hL u v))
    have e2 : M = M2 := shows_eq V.1.1 hM hM2 (fun x y _ _ _ _ => close_close (fun u v hd => dk_in hd) (fun u v => shows_dk hM u v))
    subst e1
    subst e2
    refine Ev.bind eL (Ev.bind eM ?_)
    simp only [if_true]
    refine Ev.bind eL2 (Ev.bind eM2 (Ev.bind (within_shows V.1.1 hL (shows_self V) sL (fun x y _ _ _ _ => open_within)) ?_))
    simp only [if_true]
    refine Ev.bind (within_shows V.1.1 (shows_self V) hM (by have := V.2; omega) (fun x y _ _ _ _ => close_within)) ?_
    simp only [if_true]
    refine Ev.bind (same_self _ _ _ sL) ?_
    simp only [if_true]
    refine Ev.bind (same_self _ _ _ sM) ?_
    simp only [if_true]
    exact he
  · refine Ev.bind (op_bad O).2.2.1 (Ev.bind (op_bad O).2.2.2 ?_)
    by_cases V : Valid w h l.length
    · simp only [if_pos V, if_neg (show ¬ (3 : Int) = 0 by decide), if_neg (show ¬ (3 : Int) = 1 by decide), if_true]
      exact he
    · simp only [if_neg V, if_neg (show ¬ (1 : Int) = 0 by decide), if_true]
      exact he
end Go.Proofs.Ytkakiblnhgpdnaa.Pure
