/-
The reference of Dirt answers as Dirt does. Conditions: as each theorem says.
-/
import Derived.Test.YtbipbbckfmilfaaXDirt
import Derived.Test.YtbipbbckfmilfaaXRefPlaces
import Derived.Test.YtbipbbckfmilfaaPRx34
namespace Go.Proofs.Ytbipbbckfmilfaa.Pure
set_option linter.unusedVariables false
set_option linter.unusedSimpArgs false
open Go.RowKit Go.Proofs.Ytbipbbckfmilfaa.PR Go.Proofs.YtbipbbckfmilfaaW.PrintWords Go.Proofs.YtbipbbckfmilfaaW.PrintLast Go.Proofs.YtbipbbckfmilfaaW.PrintMore Go.Proofs.Ytbipbbckfmilfaa.XWords Go.Proofs.Ytbipbbckfmilfaa.XPure
theorem refDirt_ok {w h : Int} {l : List Bool} {n a : Int} : Ev (fun k => barscanref43_Dirt.f k w h l n a) (dirtOf w h l n a) := by
  unfold barscanref43_Dirt.f dirtOf dirtErr
  rw [valid_eq]
  by_cases V : Valid w h l.length
  · have nV : ¬ ¬ Valid w h l.length := fun hh => hh V
    obtain ⟨F, hl⟩ := id V
    have nF : ¬ ¬ Fits w h := fun hh => hh F
    have hp := F.pos
    have h5 := F.2.2.2.2
    simp only [decide_eq_true V, if_neg nV, Option.bind_some, if_true]
    have hP := refPlaces_ok (w := w) (h := h) (n := n) (a := a)
    unfold placesErr at hP
    rw [if_neg nF, ← hl] at hP
    refine Ev.bind hP ?_
    by_cases c3 : n < 0 ∨ n > mn (l.length : Int) 65536
    · simp only [if_pos c3]
      rw [if_neg (by decide), if_neg (by decide)]
      exact Ev.now _
    · simp only [if_neg c3, if_true, List.nil_append, List.length_nil]
      have hm : 0 ≤ n ∧ n ≤ (l.length : Int) := by
        unfold mn at c3
        split at c3 <;> omega
      have I := pl_inv (size := (l.length : Int)) (s := seed0 a) (by omega) n.toNat (by omega)
      have hlen : (placesOf l.length n.toNat a).length ≤ 4194304 := by
        have := I.out
        unfold placesOf
        omega
      have hll : 0 + l.length < 140737488355328 := by omega
      simp only [if_pos hll]
      refine ev_flips (placesOf l.length n.toNat a) l (fun b hb => I.rng b hb) (fun k i acc => barscanref43_Dirt.l0 k (placesOf l.length n.toNat a) i w h acc) (fun acc => (w, h, acc, 0)) ?_ ?_
      · intro k i acc hi hin hal r0 r1
        simp only [barscanref43_Dirt.l0]
        rw [if_pos hin, if_pos hi, if_pos (show 0 ≤ rd _ i from r0), if_pos (show rd _ i < _ from by rw [hal]; exact r1), w64 (n := i + 1) (by omega)]
        rfl
      · intro k acc
        simp only [barscanref43_Dirt.l0]
        rw [if_neg (by omega)]
  · simp only [decide_eq_false V, if_pos V, Option.bind_some, Bool.false_eq_true, if_false]
    rw [if_neg (by decide)]
    exact Ev.now _
end Go.Proofs.Ytbipbbckfmilfaa.Pure
