/-
FontDraws, over numbers and rows alone. Conditions: the string's length.
-/
import Derived.Test.YtghfcdgdbdeomaaStmtFontDraws
import Derived.Test.YtghfcdgdbdeomaaXRefDraw47
import Derived.Test.YtghfcdgdbdeomaaXEx47
namespace Go.Proofs.Ytghfcdgdbdeomaa.Pure
set_option linter.unusedVariables false
set_option linter.unusedSimpArgs false
open Go.RowKit Go.Proofs.Ytghfcdgdbdeomaa.PR Go.Proofs.YtghfcdgdbdeomaaW.PrintWords Go.Proofs.YtghfcdgdbdeomaaW.PrintLast Go.Proofs.YtghfcdgdbdeomaaW.PrintMore Go.Proofs.Ytghfcdgdbdeomaa.XWords Go.Proofs.Ytghfcdgdbdeomaa.XPure

theorem drw_small (s : ByteArray) (sc : Int) : (drw s sc).2.2.1.length ≤ 4194304 := by
  unfold drw
  by_cases hc : chk s sc = 0
  · obtain ⟨h0, hA, h1, h2, hw⟩ := chk_zero hc
    have hwd : 1 ≤ wd s := by unfold wd; omega
    obtain ⟨b1, b2, b3⟩ := wide hwd h1 (show wd s * sc ≤ 4096 from hw)
    have b4 : sc * wd s * (sc * 7) ≤ 4096 * 448 := Int.mul_le_mul b3 (by omega) (by omega) (by omega)
    rw [if_pos hc]
    unfold pict
    simp only [upto_length]
    omega
  · rw [if_neg hc]
    simp
theorem ex_some : Ev (fun k => (barscanlaw47_examples.f k).bind fun t => some t) true := Ev.bind examples_ok (Ev.now _)
theorem FontDraws : barscanlaw47_FontDraws.Pure := by
  intro s sc hs wsc
  refine Ev.rounds (g := fun k => barscanlaw47_FontDraws.f k s sc) ?_
  have E := ex_some
  have M : Ev (fun k => (font_Draw.f k s sc).bind fun bt299 => ((barscanref47_Draw.f k s sc).bind fun bt306 => ((font_Width.f k s sc).bind fun bt313 => ((barscanref47_Width.f k s sc).bind fun bt315 => ((barscanlaw47_same.f k bt299.1 bt299.2.1 bt299.2.2.1 bt306.1 bt306.2.1 bt306.2.2.1).bind fun t317 => (if t317 = true then (if bt299.2.2.2 = bt306.2.2.2 then (if bt313.1 = bt315.1 then (if bt313.2 = bt315.2 then ((barscanlaw47_examples.f k).bind fun t318 => (some t318)) else (none)) else (none)) else (none)) else (none))))))) true := by
    refine Ev.bind (Draw_ev s sc hs) ?_
    refine Ev.bind (refDraw_ev s sc hs) ?_
    refine Ev.bind (width_ev s sc hs) ?_
    refine Ev.bind (refWidth_ev s sc hs) ?_
    refine Ev.bind (same_self _ _ _ (drw_small s sc)) ?_
    simp only [if_true]
    exact E
  unfold barscanlaw47_FontDraws.f
  by_cases h1 : (s.size : Int) > 40
  · by_cases h2 : (s.size : Int) ≤ 4096
    · simp only [if_pos h1, if_pos h2]
      exact E
    · by_cases h3 : (s.size : Int) > 10000
      · simp only [if_pos h1, if_neg h2, if_pos h3]
        exact E
      · by_cases h4 : sc > 8
        · by_cases h5 : sc ≤ 64
          · simp only [if_pos h1, if_neg h2, if_neg h3, if_pos h4, if_pos h5]
            exact E
          · simp only [if_pos h1, if_neg h2, if_neg h3, if_pos h4, if_neg h5]
            exact M
        · simp only [if_pos h1, if_neg h2, if_neg h3, if_neg h4]
          exact M
  · by_cases h3 : (s.size : Int) > 10000
    · simp only [if_neg h1, if_pos h3]
      exact E
    · by_cases h4 : sc > 8
      · by_cases h5 : sc ≤ 64
        · simp only [if_neg h1, if_neg h3, if_pos h4, if_pos h5]
          exact E
        · simp only [if_neg h1, if_neg h3, if_pos h4, if_neg h5]
          exact M
      · simp only [if_neg h1, if_neg h3, if_neg h4]
        exact M
end Go.Proofs.Ytghfcdgdbdeomaa.Pure
