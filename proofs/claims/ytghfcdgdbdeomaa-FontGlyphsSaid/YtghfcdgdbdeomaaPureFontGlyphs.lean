/-
FontGlyphs, over numbers and rows alone. Conditions: bytes.
-/
import Derived.Test.YtghfcdgdbdeomaaStmtFontGlyphs
import Derived.Test.YtghfcdgdbdeomaaXRefDist47
import Derived.Test.YtghfcdgdbdeomaaXEx47
namespace Go.Proofs.Ytghfcdgdbdeomaa.Pure
set_option linter.unusedVariables false
set_option linter.unusedSimpArgs false
open Go.RowKit Go.Proofs.Ytghfcdgdbdeomaa.PR Go.Proofs.YtghfcdgdbdeomaaW.PrintWords Go.Proofs.YtghfcdgdbdeomaaW.PrintLast Go.Proofs.YtghfcdgdbdeomaaW.PrintMore Go.Proofs.Ytghfcdgdbdeomaa.XWords Go.Proofs.Ytghfcdgdbdeomaa.XPure

theorem FontGlyphs : barscanlaw47_FontGlyphs.Pure := by
  intro a b wa wb
  have ha : Byte a := wf_u8 wa
  have hb : Byte b := wf_u8 wb
  refine Ev.rounds (g := fun k => barscanlaw47_FontGlyphs.f k a b) ?_
  unfold barscanlaw47_FontGlyphs.f
  refine Ev.bind (glyph_ev ha) ?_
  refine Ev.bind (refGlyph_ev ha) ?_
  refine Ev.bind (Distance_ev ha hb) ?_
  refine Ev.bind (refDistance_ev ha hb) ?_
  have hl : (gl a).2.2.1.length ≤ 4194304 := by
    unfold gl
    split
    · rw [dots_length]; omega
    · simp
  refine Ev.bind (same_self _ _ _ hl) ?_
  simp only [if_true]
  refine Ev.bind Chars_ev ?_
  refine Ev.bind refChars_ev ?_
  simp only [if_true]
  refine Ev.bind Closest_ev ?_
  refine Ev.bind refClosest_ev ?_
  simp only [if_true]
  exact Ev.bind examples_ok (Ev.now _)
end Go.Proofs.Ytghfcdgdbdeomaa.Pure
