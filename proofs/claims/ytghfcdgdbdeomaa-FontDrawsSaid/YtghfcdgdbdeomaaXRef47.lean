/-
The reference's glyphs are those of the font, byte by byte; a bitmap is the same as itself. Conditions: bytes.
-/
import Derived.Test.YtghfcdgdbdeomaaXBase47
import Derived.Test.YtghfcdgdbdeomaaPRx14
import Derived.Test.YtghfcdgdbdeomaaPRx12
import Derived.Test.YtghfcdgdbdeomaaPRx17
namespace Go.Proofs.Ytghfcdgdbdeomaa.Pure
set_option linter.unusedVariables false
set_option linter.unusedSimpArgs false
open Go.RowKit Go.Proofs.Ytghfcdgdbdeomaa.PR Go.Proofs.YtghfcdgdbdeomaaW.PrintWords Go.Proofs.YtghfcdgdbdeomaaW.PrintLast Go.Proofs.YtghfcdgdbdeomaaW.PrintMore Go.Proofs.Ytghfcdgdbdeomaa.XWords Go.Proofs.Ytghfcdgdbdeomaa.XPure

theorem equal_self (w h : Int) (l : List Bool) (hl : l.length ≤ 4194304) : Ev (fun k => barscanref31_Equal.f k w h l w h l) true := by
  unfold barscanref31_Equal.f
  simp only [if_true]
  refine Ev.step (f := fun k => barscanref31_Equal.l0 k 0 w h l w h l) (fun k => ?_) ?_
  · simp only [barscanref31_Equal.j0, bne_self_eq_false]
    rfl
  refine ev_loop (fun k i (_ : Unit) => barscanref31_Equal.l0 k i w h l w h l) 0 l.length (by omega) (fun _ _ => True) _ ?_ ?_ () trivial
  · intro i s hi hil _ K
    refine Ev.step (f := fun k => barscanref31_Equal.l0 k (i + 1) w h l w h l) (fun k => ?_) (K () trivial)
    simp only [barscanref31_Equal.l0]
    rw [if_pos hil, if_pos hi, if_pos hil, w64 (by omega), bne_self_eq_false]
    rfl
  · intro s _
    refine ev_end (fun k => ?_)
    simp only [barscanref31_Equal.l0]
    rw [if_neg (by omega)]
theorem same_self (w h : Int) (l : List Bool) (hl : l.length ≤ 4194304) : Ev (fun k => barscanlaw47_same.f k w h l w h l) true := by
  unfold barscanlaw47_same.f
  exact Ev.bind (equal_self w h l hl) (Ev.now _)

theorem k_ref : ((List.range 256).all fun a : Nat => barscanref47_Glyph.f 200 a == some (gl a)) = true := by decide +kernel
theorem k_rows : ((List.range 256).all fun a : Nat => match barscanref47_rows.f a with | some r => decide (r.toList = []) == !ok a | none => false) = true := by decide +kernel

theorem refGlyph_ev {c : Int} (h : Byte c) : Ev (fun k => barscanref47_Glyph.f k c) (gl c) := by
  refine Ev.of (g := fun k => barscanref47_Glyph.f k c) (barscanref47_Glyph.mono c) (k := 200) ?_
  have := of_all k_ref h.1 (by have := h.2; omega)
  simp only [back h.1] at this
  exact eq_of_beq this
theorem rows_eq {c : Int} (h : Byte c) : ∃ r, barscanref47_rows.f c = some r ∧ (r.toList = [] ↔ ok c = false) := by
  have := of_all k_rows h.1 (by have := h.2; omega)
  simp only [back h.1] at this
  revert this
  cases barscanref47_rows.f c with
  | none => intro h; cases h
  | some r =>
    intro this
    refine ⟨r, rfl, ?_⟩
    have := eq_of_beq this
    by_cases hr : r.toList = []
    · rw [decide_eq_true hr] at this
      cases ho : ok c
      · simp [hr]
      · rw [ho] at this; simp at this
    · rw [decide_eq_false hr] at this
      cases ho : ok c
      · rw [ho] at this; simp at this
      · simp [hr]
end Go.Proofs.Ytghfcdgdbdeomaa.Pure
