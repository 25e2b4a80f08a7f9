/-
FontShapes, over numbers and rows alone. Conditions: bytes.
-/
import Derived.Test.YtghfcdgdbdeomaaStmtFontShapes
import Derived.Test.YtghfcdgdbdeomaaXDist47
import Derived.Test.YtghfcdgdbdeomaaPRx2
import Derived.Test.YtghfcdgdbdeomaaXEx47
namespace Go.Proofs.Ytghfcdgdbdeomaa.Pure
set_option linter.unusedVariables false
set_option linter.unusedSimpArgs false
open Go.RowKit Go.Proofs.Ytghfcdgdbdeomaa.PR Go.Proofs.YtghfcdgdbdeomaaW.PrintWords Go.Proofs.YtghfcdgdbdeomaaW.PrintLast Go.Proofs.YtghfcdgdbdeomaaW.PrintMore Go.Proofs.Ytghfcdgdbdeomaa.XWords Go.Proofs.Ytghfcdgdbdeomaa.XPure

theorem word_eq (c : Int) : barscanlaw47_word.f c = some (wordB c) := by
  unfold barscanlaw47_word.f wordB
  by_cases h1 : c ≥ 48
  · by_cases h2 : c ≤ 57
    · rw [if_pos h1, if_pos h2, decide_eq_true (show 48 ≤ c ∧ c ≤ 57 from ⟨h1, h2⟩), Bool.true_or]
    · rw [if_pos h1, if_neg h2, decide_eq_false (show ¬ (48 ≤ c ∧ c ≤ 57) from fun h => h2 h.2), Bool.false_or]
      by_cases h3 : c ≥ 65
      · rw [if_pos h3]
        by_cases h4 : c ≤ 90
        · rw [decide_eq_true h4, decide_eq_true (show 65 ≤ c ∧ c ≤ 90 from ⟨h3, h4⟩)]
        · rw [decide_eq_false h4, decide_eq_false (fun h => h4 h.2)]
      · rw [if_neg h3, decide_eq_false (fun h => h3 h.1)]
  · rw [if_neg h1, if_neg (show ¬ c ≥ 65 by omega), decide_eq_false (show ¬ (48 ≤ c ∧ c ≤ 57) from fun h => h1 h.1), decide_eq_false (show ¬ (65 ≤ c ∧ c ≤ 90) from fun h => by omega)]
    rfl
theorem k_first : ((List.range 256).all fun a : Nat => !ok a || (((List.range 7).any fun y : Nat => dot a (5 * y)) != ((a : Int) == 32))) = true := by decide +kernel
theorem k_rows7 : ((List.range 256).all fun a : Nat => !wordB a || ok a && (List.range 7).all fun y : Nat => dot a (5 * y) || dot a (5 * y + 1) || dot a (5 * y + 2) || dot a (5 * y + 3) || dot a (5 * y + 4)) = true := by decide +kernel
theorem word_ok {a : Int} (h : Byte a) (hw : wordB a = true) : ok a = true ∧ ∀ y : Nat, y < 7 → (dot a (5 * y) || dot a (5 * y + 1) || dot a (5 * y + 2) || dot a (5 * y + 3) || dot a (5 * y + 4)) = true := by
  have := of_all k_rows7 h.1 (by have := h.2; omega)
  simp only [back h.1, hw, Bool.not_true, Bool.false_or, Bool.and_eq_true, List.all_eq_true, List.mem_range] at this
  exact this
theorem not_word {a : Int} (h : Byte a) (ho : ok a = false) : wordB a = false := by
  cases hw : wordB a
  · rfl
  · rw [(word_ok h hw).1] at ho; cases ho
/-- Whether one of the first n rows of a glyph begins dark. -/
def begins (a : Int) (n : Nat) : Bool := (List.range n).any fun y : Nat => dot a (5 * y)
theorem begins_succ (a : Int) (n : Nat) : begins a (n + 1) = (begins a n || dot a (5 * n)) := by
  unfold begins
  rw [List.range_succ, List.any_append, List.any_cons, List.any_nil, Bool.or_false]

theorem shapes_step {a b : Int} (ha : Byte a) {x7 : Bool} {y : Int} (h0 : 0 ≤ y) (h1 : y < 7) (k : Nat) :
    barscanlaw47_FontShapes.l0 (k + 1) a b x7 y 5 7 (dots a) = barscanlaw47_FontShapes.l0 k a b (x7 || dot a (5 * y.toNat)) (y + 1) 5 7 (dots a) := by
  have e1 : wrap64 (5 * y) = 5 * y := w64 (by omega)
  have e2 : wrap64 (5 * y + 5) = 5 * y + 5 := w64 (by omega)
  have e3 : wrap64 (y + 1) = y + 1 := w64 (by omega)
  have hl := dots_length a
  have hyl : ((((dots a).take (5 * y + 5).toNat).drop (5 * y).toNat).length : Int) = 5 := by
    rw [List.length_drop, List.length_take]
    omega
  have hg : ∀ j : Nat, j < 5 → rdOf false (((dots a).take (5 * y + 5).toNat).drop (5 * y).toNat) (j : Int) = dot a (5 * y.toNat + j) := by
    intro j hj
    unfold rdOf
    rw [getD_take_drop _ _ _ _ _ (by omega), dots_get a (by omega)]
    congr 1
    omega
  have g0 : rdOf false (((dots a).take (5 * y + 5).toNat).drop (5 * y).toNat) 0 = dot a (5 * y.toNat) := hg 0 (by omega)
  have g1 : rdOf false (((dots a).take (5 * y + 5).toNat).drop (5 * y).toNat) 1 = dot a (5 * y.toNat + 1) := hg 1 (by omega)
  have g2 : rdOf false (((dots a).take (5 * y + 5).toNat).drop (5 * y).toNat) 2 = dot a (5 * y.toNat + 2) := hg 2 (by omega)
  have g3 : rdOf false (((dots a).take (5 * y + 5).toNat).drop (5 * y).toNat) 3 = dot a (5 * y.toNat + 3) := hg 3 (by omega)
  have g4 : rdOf false (((dots a).take (5 * y + 5).toNat).drop (5 * y).toNat) 4 = dot a (5 * y.toNat + 4) := hg 4 (by omega)
  have hw := fun h => (word_ok ha h).2 y.toNat (by omega)
  rw [barscanlaw47_FontShapes.l0]
  rw [if_pos h1, e1, e2, e3, if_pos (show (0 : Int) ≤ 5 * y by omega), if_pos (show 5 * y ≤ 5 * y + 5 by omega), if_pos (show 5 * y + 5 ≤ ((dots a).length : Int) by omega), Option.bind_some]
  generalize (((dots a).take (5 * y + 5).toNat).drop (5 * y).toNat) = R at hyl g0 g1 g2 g3 g4 ⊢
  have p0 : (0 : Int) < (R.length : Int) := by omega
  have p1 : (1 : Int) < (R.length : Int) := by omega
  have p2 : (2 : Int) < (R.length : Int) := by omega
  have p3 : (3 : Int) < (R.length : Int) := by omega
  have p4 : (4 : Int) < (R.length : Int) := by omega
  simp only [word_eq, Option.bind_some, g0, g1, g2, g3, g4, if_pos p0, if_pos p1, if_pos p2, if_pos p3, if_pos p4]
  cases x7
  · cases hwa : wordB a
    · simp
    · have := hw hwa
      revert this
      cases dot a (5 * y.toNat) <;> cases dot a (5 * y.toNat + 1) <;> cases dot a (5 * y.toNat + 2) <;> cases dot a (5 * y.toNat + 3) <;> cases dot a (5 * y.toNat + 4) <;> simp
  · cases hwa : wordB a
    · simp
    · have := hw hwa
      revert this
      cases dot a (5 * y.toNat) <;> cases dot a (5 * y.toNat + 1) <;> cases dot a (5 * y.toNat + 2) <;> cases dot a (5 * y.toNat + 3) <;> cases dot a (5 * y.toNat + 4) <;> simp

theorem FontShapes : barscanlaw47_FontShapes.Pure := by
  intro a b wa wb
  have ha : Byte a := wf_u8 wa
  have hb : Byte b := wf_u8 wb
  refine Ev.rounds (g := fun k => barscanlaw47_FontShapes.f k a b) ?_
  unfold barscanlaw47_FontShapes.f
  refine Ev.bind (glyph_ev ha) ?_
  unfold gl
  cases hoa : ok a
  · simp only [Bool.false_eq_true, if_false, word_eq, not_word ha hoa, Option.bind_some]
    exact Ev.bind examples_ok (Ev.now _)
  · simp only [if_true, dots_length]
    refine ev_loop (fun k y x7 => barscanlaw47_FontShapes.l0 k a b x7 y 5 7 (dots a)) 0 7 (by omega) (fun y x7 => x7 = begins a y.toNat) _ ?_ ?_ false rfl
    · intro y x7 hy hy7 hI K
      refine Ev.step (f := fun k => barscanlaw47_FontShapes.l0 k a b (x7 || dot a (5 * y.toNat)) (y + 1) 5 7 (dots a)) (shapes_step ha hy hy7) (K _ ?_)
      rw [show (y + 1).toNat = y.toNat + 1 by omega, begins_succ, hI]
    · intro x7 hI
      have hf : (x7 == (a == 32)) = false := by
        have := of_all k_first ha.1 (by have := ha.2; omega)
        simp only [back ha.1, hoa, Bool.not_true, Bool.false_or] at this
        rw [hI]
        show (begins a 7 == (a == 32)) = false
        unfold begins
        revert this
        cases (List.range 7).any fun y : Nat => dot a (5 * y) <;> cases a == 32 <;> simp
      refine Ev.step (f := fun k => (font_Distance.f k a b).bind fun bt249 => ((font_Distance.f k b a).bind fun bt251 => (if bt249.2 = 0 then ((font_Closest.f k).bind fun t255 => (if a = b then (if bt249.1 = 0 then ((barscanlaw47_examples.f k).bind fun t256 => (some t256)) else (none)) else (if bt251.2 = 0 then (if bt249.1 = bt251.1 then (if t255 ≥ 2 then (if bt249.1 ≥ t255 then (if bt249.1 ≥ 4 then ((barscanlaw47_examples.f k).bind fun t257 => (some t257)) else ((barscanlaw47_word.f a).bind fun t258 => (if t258 = true then ((barscanlaw47_word.f b).bind fun t259 => (if t259 = true then (none) else ((barscanlaw47_examples.f k).bind fun t260 => (some t260)))) else ((barscanlaw47_examples.f k).bind fun t261 => (some t261))))) else (none)) else (none)) else (none)) else (none)))) else (if bt249.2 = 6 then (if bt251.2 = bt249.2 then ((barscanlaw47_word.f b).bind fun t253 => (if t253 = true then (none) else ((barscanlaw47_examples.f k).bind fun t254 => (some t254)))) else (none)) else (none))))) (fun k => ?_) ?_
      · rw [barscanlaw47_FontShapes.l0, if_neg (by omega), hf, if_neg (by decide)]
      refine Ev.bind (Distance_ev ha hb) ?_
      refine Ev.bind (Distance_ev hb ha) ?_
      unfold dst
      cases hob : ok b
      · simp only [hoa, Bool.false_eq_true, and_false, false_and, if_false, word_eq, not_word hb hob, Option.bind_some, if_true, show ¬ ((6 : Int) = 0) by decide]
        exact Ev.bind examples_ok (Ev.now _)
      · simp only [hoa, and_self, if_true]
        refine Ev.bind Closest_ev ?_
        by_cases hab : a = b
        · subst hab
          simp only [df_self, if_true]
          exact Ev.bind examples_ok (Ev.now _)
        · obtain ⟨p1, p2⟩ := apart ha hb hoa hob hab
          simp only [if_neg hab, df_comm b a, if_true, ge_iff_le, Int.le_refl, if_pos p1, word_eq, Option.bind_some]
          by_cases h4 : 4 ≤ df a b
          · simp only [if_pos h4]
            exact Ev.bind examples_ok (Ev.now _)
          · simp only [if_neg h4]
            cases hwa : wordB a
            · simp only [Bool.false_eq_true, if_false]
              exact Ev.bind examples_ok (Ev.now _)
            · cases hwb : wordB b
              · simp only [Bool.false_eq_true, if_false, if_true]
                exact Ev.bind examples_ok (Ev.now _)
              · exfalso
                rcases p2 with p2 | p2 | p2
                · exact h4 p2
                · rw [hwa] at p2; cases p2
                · rw [hwb] at p2; cases p2
end Go.Proofs.Ytghfcdgdbdeomaa.Pure
