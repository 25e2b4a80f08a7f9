/-
PrintingPlaces over numbers and rows: Places and Dirt and their references agree. Conditions: none.
-/
import Derived.Test.YtbipbbckfmilfaaStmtPrintingPlaces
import Derived.Test.YtbipbbckfmilfaaXRefDirt
import Derived.Test.YtbipbbckfmilfaaXSame
namespace Go.Proofs.Ytbipbbckfmilfaa.Pure
set_option linter.unusedVariables false
open Go.RowKit Go.Proofs.Ytbipbbckfmilfaa.PR Go.Proofs.YtbipbbckfmilfaaW.PrintWords Go.Proofs.YtbipbbckfmilfaaW.PrintLast Go.Proofs.YtbipbbckfmilfaaW.PrintMore Go.Proofs.Ytbipbbckfmilfaa.XWords Go.Proofs.Ytbipbbckfmilfaa.XPure
theorem places_length {w h n a : Int} : (if placesErr w h n = 0 then placesOf (w * h) n.toNat a else []).length ≤ 4194304 := by
  by_cases e : placesErr w h n = 0
  · rw [if_pos e]
    unfold placesErr at e
    by_cases F : Fits w h
    · have nF : ¬ ¬ Fits w h := fun hh => hh F
      have hp := F.pos
      have h5 := F.2.2.2.2
      rw [if_neg nF] at e
      by_cases c : n < 0 ∨ n > mn (w * h) 65536
      · rw [if_pos c] at e
        exact absurd e (by decide)
      · have hm : 0 ≤ n ∧ n ≤ w * h := by
          unfold mn at c
          split at c <;> omega
        have I := pl_inv (size := w * h) (s := seed0 a) (by omega) n.toNat (by omega)
        have := I.out
        unfold placesOf
        omega
    · rw [if_pos F] at e
      exact absurd e (by decide)
  · rw [if_neg e]
    simp
theorem dirt_length {w h : Int} {l : List Bool} {n a : Int} (hl : l.length ≤ 4194304) : (dirtOf w h l n a).2.2.1.length ≤ 4194304 := by
  unfold dirtOf
  split
  · simp only [flips_length]
    exact hl
  · simp
theorem places_run (w h : Int) (l : List Bool) (x y n a : Int) (hl : l.length ≤ 4194304) : Ev (fun k => (printing_Places.f k x y n a).bind fun p => (barscanref43_Places.f k x y n a).bind fun q => (printing_Dirt.f k w h l n a).bind fun r => (barscanref43_Dirt.f k w h l n a).bind fun s =>
    (barscanlaw43_ints.f k p.1 q.1).bind fun t => if t = true then (if p.2 = q.2 then ((barscanlaw43_same.f k r.1 r.2.1 r.2.2.1 s.1 s.2.1 s.2.2.1).bind fun t => if t = true then (if r.2.2.2 = s.2.2.2 then ((barscanlaw43_examples.f k).bind fun t => some t) else none) else none) else none) else none) true := by
  refine Ev.bind Places_ok (Ev.bind refPlaces_ok (Ev.bind dirt_ok (Ev.bind refDirt_ok (Ev.bind (ints_self _ places_length) ?_))))
  simp only [if_true]
  refine Ev.bind (same_self _ _ _ (dirt_length hl)) ?_
  simp only [if_true]
  exact Ev.bind examples_ok (Ev.now _)
theorem PrintingPlaces : barscanlaw43_PrintingPlaces.Pure := by
  intro w h l x y n a _ _ _ _ _ _ _
  refine Ev.rounds (g := fun k => barscanlaw43_PrintingPlaces.f k w h l x y n a) ?_
  unfold barscanlaw43_PrintingPlaces.f
  have he := Ev.bind (f := fun k t => some t) examples_ok (Ev.now _)
  by_cases c0 : (l.length : Int) > 10000
  · simp only [if_pos c0]
    exact he
  simp only [if_neg c0]
  have hr := places_run w h l x y n a (by omega)
  by_cases c1 : x ≥ 1
  · by_cases c2 : x ≤ 4096
    · by_cases c3 : y ≥ 1
      · by_cases c4 : y ≤ 4096
        · by_cases c5 : wrap64 (x * y) > 10000
          · by_cases c6 : wrap64 (x * y) ≤ 4194304
            · simp only [if_pos c1, if_pos c2, if_pos c3, if_pos c4, if_pos c5, if_pos c6]
              exact he
            · simp only [if_pos c1, if_pos c2, if_pos c3, if_pos c4, if_pos c5, if_neg c6]
              exact hr
          · simp only [if_pos c1, if_pos c2, if_pos c3, if_pos c4, if_neg c5]
            exact hr
        · simp only [if_pos c1, if_pos c2, if_pos c3, if_neg c4]
          exact hr
      · simp only [if_pos c1, if_pos c2, if_neg c3]
        exact hr
    · simp only [if_pos c1, if_neg c2]
      exact hr
  · simp only [if_neg c1]
    exact hr
end Go.Proofs.Ytbipbbckfmilfaa.Pure
