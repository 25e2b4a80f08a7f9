/-
A bitmap within another one. Conditions: as each theorem says.
-/
import Derived.Test.YtkakiblnhgpdnaaXOps
import Derived.Test.YtkakiblnhgpdnaaPRx19
namespace Go.Proofs.Ytkakiblnhgpdnaa.Pure
set_option linter.unusedVariables false
set_option linter.unusedSimpArgs false
open Go.RowKit Go.Proofs.Ytkakiblnhgpdnaa.PR Go.Proofs.YtkakiblnhgpdnaaW.PrintWords Go.Proofs.YtkakiblnhgpdnaaW.PrintLast Go.Proofs.YtkakiblnhgpdnaaW.PrintMore Go.Proofs.Ytkakiblnhgpdnaa.XWords Go.Proofs.Ytkakiblnhgpdnaa.XPure
theorem within_ok {w h : Int} {l m : List Bool} (hl : l.length ≤ 4194304) (hm : m.length = l.length) (hw : ∀ j : Nat, j < l.length → l.getD j false = true → m.getD j false = true) : Ev (fun k => barscanlaw37_within.f k w h l w h m) true := by
  unfold barscanlaw37_within.f
  simp only [if_true]
  refine Ev.step (f := fun k => barscanlaw37_within.l0 k l.length 0 w h l w h m) (fun k => ?_) ?_
  · simp only [barscanlaw37_within.j0]
    rw [hm, if_neg (by simp)]
  refine ev_loop (fun k i (_ : Unit) => barscanlaw37_within.l0 k l.length i w h l w h m) 0 l.length (by omega) (fun _ _ => True) _ ?_ ?_ () trivial
  · intro i s hi0 hi hI K
    refine Ev.step (f := fun k => barscanlaw37_within.l0 k l.length (i + 1) w h l w h m) (fun k => ?_) (K () trivial)
    simp only [barscanlaw37_within.l0]
    rw [if_pos hi, if_pos hi0, if_pos hi, w64 (n := i + 1) (by omega)]
    by_cases hd : rdOf false l i = true
    · rw [if_pos hd, if_pos (by omega), if_pos (show rdOf false m i = true from hw i.toNat (by omega) hd)]
    · rw [if_neg hd]
  · intro s hI
    refine ev_end (fun k => ?_)
    simp only [barscanlaw37_within.l0]
    rw [if_neg (by omega)]
theorem within_shows {w h : Int} (hw : 1 ≤ w) {l m : List Bool} {P Q : Int → Int → Prop} (hl : Shows w h l P) (hm : Shows w h m Q) (hs : l.length ≤ 4194304) (e : ∀ x y, 0 ≤ x → x < w → 0 ≤ y → y < h → P x y → Q x y) : Ev (fun k => barscanlaw37_within.f k w h l w h m) true := by
  refine within_ok hs (by have := hl.len; have := hm.len; omega) (fun j hj hd => ?_)
  have hln := hl.len
  have m0 := Int.emod_nonneg (j : Int) (show w ≠ 0 by omega)
  have m1 := Int.emod_lt_of_pos (j : Int) (show 0 < w by omega)
  have m2 : 0 ≤ (j : Int) / w := Int.ediv_nonneg (by omega) (by omega)
  have m3 : (j : Int) / w < h := div_lt (by omega) (by omega)
  have hj2 : ((j : Int) / w * w + (j : Int) % w).toNat = j := by rw [mod_div (by omega)]; omega
  have h1 := hl.read _ _ m0 m1 m2 m3
  have h2 := hm.read _ _ m0 m1 m2 m3
  rw [hj2] at h1 h2
  exact h2.2 (e _ _ m0 m1 m2 m3 (h1.1 hd))
end Go.Proofs.Ytkakiblnhgpdnaa.Pure
