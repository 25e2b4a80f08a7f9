/-
The reference's places are those of printing. Conditions: none.
-/
import Derived.Test.YtbipbbckfmilfaaXPlaces
import Derived.Test.YtbipbbckfmilfaaPRx11
import Derived.Test.YtbipbbckfmilfaaPRx10
namespace Go.Proofs.Ytbipbbckfmilfaa.Pure
set_option linter.unusedVariables false
set_option linter.unusedSimpArgs false
open Go.RowKit Go.Proofs.Ytbipbbckfmilfaa.PR Go.Proofs.YtbipbbckfmilfaaW.PrintWords Go.Proofs.YtbipbbckfmilfaaW.PrintLast Go.Proofs.YtbipbbckfmilfaaW.PrintMore Go.Proofs.Ytbipbbckfmilfaa.XWords Go.Proofs.Ytbipbbckfmilfaa.XPure
theorem refNext_eq (a : Int) : barscanref43_next.f a = some (nx a) := rfl
theorem ev_map {α β : Type} {f : Nat → Option α} {r : α} (g : α → β) (h : Ev f r) : Ev (fun k => (f k).map g) (g r) := by
  obtain ⟨K, h⟩ := h
  exact ⟨K, fun k hk => by simp only [h k hk, Option.map_some]⟩
theorem ref_l (w h n : Int) : ∀ k, (∀ s used out i, barscanref43_Places.l0 k w h n s used out i = (printing_places.l0 k (wrap64 (w * h)) s used out n i).map (fun l => (l, (0 : Int)))) ∧
    (∀ s used out i a, barscanref43_Places.l1 k w h n s used out i a = (printing_places.l1 k (wrap64 (w * h)) s used out a n i).map (fun l => (l, (0 : Int))))
  | 0 => ⟨fun _ _ _ _ => rfl, fun _ _ _ _ _ => rfl⟩
  | k + 1 => by
    obtain ⟨i0, i1⟩ := ref_l w h n k
    refine ⟨fun s used out i => ?_, fun s used out i a => ?_⟩
    · simp only [barscanref43_Places.l0, printing_places.l0, next_eq, refNext_eq, Option.bind_some, i1]
      split
      · split <;> rfl
      · rfl
    · simp only [barscanref43_Places.l1, printing_places.l1, i0, i1]
      split
      · split
        · split
          · split <;> rfl
          · split <;> rfl
        · rfl
      · rfl
theorem refPlaces_ok {w h n a : Int} : Ev (fun k => barscanref43_Places.f k w h n a) (if placesErr w h n = 0 then placesOf (w * h) n.toNat a else [], placesErr w h n) := by
  unfold barscanref43_Places.f placesErr
  rw [fits43_eq]
  by_cases F : Fits w h
  · have nF : ¬ ¬ Fits w h := fun hh => hh F
    have hp := F.pos
    have h5 := F.2.2.2.2
    simp only [decide_eq_true F, if_neg nF, Option.bind_some, if_true]
    by_cases c1 : n < 0
    · have c1' : n < 0 ∨ n > mn (w * h) 65536 := .inl c1
      simp only [if_pos c1, if_pos c1']
      rw [if_neg (by decide)]
      exact ev_end (fun k => by simp [barscanref43_Places.j0])
    simp only [if_neg c1, F.w64]
    by_cases c2 : n > mn (w * h) 65536
    · have c2' : n < 0 ∨ n > mn (w * h) 65536 := .inr c2
      simp only [decide_eq_true c2, if_pos c2']
      rw [if_neg (by decide)]
      exact ev_end (fun k => by simp [barscanref43_Places.j0])
    · have c3 : ¬ (n < 0 ∨ n > mn (w * h) 65536) := fun hh => hh.elim c1 c2
      simp only [decide_eq_false c2, if_neg c3, if_true]
      have hm : n ≤ w * h := by
        unfold mn at c2
        split at c2 <;> omega
      have key : Ev (fun k => barscanref43_Places.j1 k w h n (seed0 a)) (placesOf (w * h) n.toNat a, (0 : Int)) := by
        refine Ev.step (f := fun k => (printing_places.l0 k (w * h) (seed0 a) (List.replicate (w * h).toNat false) [] n 0).map (fun l => (l, (0 : Int)))) (fun k => ?_) (ev_map (fun l => (l, (0 : Int))) (places_l0 (by omega) h5 (by omega) hm))
        simp only [barscanref43_Places.j1, (ref_l w h n k).1, F.w64]
        rw [if_pos (by omega), if_pos (by omega)]
      refine Ev.step (f := fun k => barscanref43_Places.j1 k w h n (seed0 a)) (fun k => ?_) key
      simp only [barscanref43_Places.j0, Bool.false_eq_true, if_false, seed0]
      split <;> rfl
  · simp only [decide_eq_false F, if_pos F, Option.bind_some, Bool.false_eq_true, if_false]
    rw [if_neg (by decide)]
    exact Ev.now _
end Go.Proofs.Ytbipbbckfmilfaa.Pure
