/-
Dirt and its reference answer the bitmap whose places are inverted. Conditions: as each theorem says.
-/
import Derived.Test.YtbipbbckfmilfaaXPlaces
import Derived.Test.YtbipbbckfmilfaaPRx29
import Derived.Test.YtbipbbckfmilfaaPRx28
namespace Go.Proofs.Ytbipbbckfmilfaa.Pure
set_option linter.unusedVariables false
set_option linter.unusedSimpArgs false
open Go.RowKit Go.Proofs.Ytbipbbckfmilfaa.PR Go.Proofs.YtbipbbckfmilfaaW.PrintWords Go.Proofs.YtbipbbckfmilfaaW.PrintLast Go.Proofs.YtbipbbckfmilfaaW.PrintMore Go.Proofs.Ytbipbbckfmilfaa.XWords Go.Proofs.Ytbipbbckfmilfaa.XPure
/-- One place inverted. -/
def flip1 (l : List Bool) (b : Int) : List Bool := l.set b.toNat (!(l.getD b.toNat false))
theorem flips_length (ps : List Int) : ∀ l : List Bool, (ps.foldl flip1 l).length = l.length := by
  induction ps with
  | nil => intro l; rfl
  | cons p ps ih => intro l; rw [List.foldl_cons, ih]; simp [flip1]
theorem take_succ_getD {ps : List Int} {i : Nat} (h : i < ps.length) : ps.take (i + 1) = ps.take i ++ [ps.getD i 0] := by
  rw [List.take_succ_eq_append_getElem h, List.getD_eq_getElem?_getD, List.getElem?_eq_getElem h]
  rfl
/-- A loop that inverts places. -/
theorem ev_flips {β : Type} (ps : List Int) (l : List Bool) (hps : ∀ b ∈ ps, 0 ≤ b ∧ b < (l.length : Int)) (L : Nat → Int → List Bool → Option β) (fin : List Bool → β)
    (h1 : ∀ k i acc, 0 ≤ i → i < (ps.length : Int) → acc.length = l.length → 0 ≤ ps.getD i.toNat 0 → ps.getD i.toNat 0 < (l.length : Int) → L (k + 1) i acc = L k (i + 1) (flip1 acc (ps.getD i.toNat 0)))
    (h3 : ∀ k acc, L (k + 1) ps.length acc = some (fin acc)) : Ev (fun k => L k 0 l) (fin (ps.foldl flip1 l)) := by
  refine ev_loop L 0 ps.length (by omega) (fun i acc => acc = (ps.take i.toNat).foldl flip1 l) _ ?_ ?_ l rfl
  · intro i acc hi hin hI K
    have hlt : i.toNat < ps.length := by omega
    have hm : ps.getD i.toNat 0 ∈ ps := by
      rw [List.getD_eq_getElem?_getD, List.getElem?_eq_getElem hlt]
      exact List.getElem_mem hlt
    have hr := hps _ hm
    refine Ev.step (f := fun k => L k (i + 1) (flip1 acc (ps.getD i.toNat 0))) (fun k => h1 k i acc hi hin (by rw [hI, flips_length]) hr.1 hr.2) (K _ ?_)
    have e : (i + 1).toNat = i.toNat + 1 := by omega
    rw [e, take_succ_getD hlt, List.foldl_append, ← hI]
    rfl
  · intro acc hI
    have e : ((ps.length : Nat) : Int).toNat = ps.length := by omega
    rw [e, List.take_length] at hI
    subst hI
    exact ev_end (fun k => h3 k _)
/-- The error of Dirt. -/
def dirtErr (w h : Int) (l : List Bool) (n : Int) : Int := if ¬ Valid w h l.length then 1 else if n < 0 ∨ n > mn (l.length : Int) 65536 then 3 else 0
/-- What Dirt answers. -/
def dirtOf (w h : Int) (l : List Bool) (n a : Int) : Int × Int × List Bool × Int := if dirtErr w h l n = 0 then (w, h, (placesOf l.length n.toNat a).foldl flip1 l, 0) else (0, 0, [], dirtErr w h l n)
theorem dirt_ok {w h : Int} {l : List Bool} {n a : Int} : Ev (fun k => printing_Dirt.f k w h l n a) (dirtOf w h l n a) := by
  unfold printing_Dirt.f dirtOf dirtErr
  rw [check_eq]
  by_cases V : Valid w h l.length
  · have nV : ¬ ¬ Valid w h l.length := fun hh => hh V
    obtain ⟨F, hl⟩ := id V
    have hp := F.pos
    have h5 := F.2.2.2.2
    simp only [if_pos V, if_neg nV, Option.bind_some, if_true]
    by_cases c1 : n < 0
    · have c1' : n < 0 ∨ n > mn (l.length : Int) 65536 := .inl c1
      simp only [if_pos c1, if_pos c1']
      exact Ev.now _
    by_cases c2 : n > mn (l.length : Int) 65536
    · have c2' : n < 0 ∨ n > mn (l.length : Int) 65536 := .inr c2
      simp only [if_neg c1, if_pos c2, if_pos c2']
      exact Ev.now _
    have c3 : ¬ (n < 0 ∨ n > mn (l.length : Int) 65536) := fun hh => hh.elim c1 c2
    simp only [if_neg c1, if_neg c2, if_neg c3]
    have hm : n ≤ (l.length : Int) := by
      unfold mn at c2
      split at c2 <;> omega
    have hc : slices_Clone_bool_bool.f l = some l := by
      unfold slices_Clone_bool_bool.f
      rw [if_pos (by omega)]
    simp only [hc, Option.bind_some]
    refine Ev.bind (places_ok (by omega) (by omega) (by omega) hm) ?_
    have I := pl_inv (size := (l.length : Int)) (s := seed0 a) (by omega) n.toNat (by omega)
    have hlen : (placesOf l.length n.toNat a).length ≤ 4194304 := by
      have := I.out
      unfold placesOf
      omega
    refine ev_flips (placesOf l.length n.toNat a) l (fun b hb => I.rng b hb) (fun k i acc => printing_Dirt.l0 k (placesOf l.length n.toNat a) (placesOf l.length n.toNat a).length i w h acc) (fun acc => (w, h, acc, 0)) ?_ ?_
    · intro k i acc hi hin hal r0 r1
      simp only [printing_Dirt.l0]
      rw [if_pos hin, if_pos hi, if_pos hin, if_pos (show 0 ≤ rd _ i from r0), if_pos (show rd _ i < _ from by rw [hal]; exact r1), w64 (n := i + 1) (by omega)]
      rfl
    · intro k acc
      simp only [printing_Dirt.l0]
      rw [if_neg (by omega)]
  · have e10 : ¬ (1 : Int) = 0 := by decide
    simp only [if_neg V, if_pos V, Option.bind_some, if_neg e10]
    exact Ev.now _
end Go.Proofs.Ytbipbbckfmilfaa.Pure
