/-
MorphologyOutline, over numbers and rows alone: the dark pixels that are not in the outline are those in both erosions by one pixel. Conditions: none.
-/
import Derived.Test.YtkakiblnhgpdnaaStmtMorphologyOutline
import Derived.Test.YtkakiblnhgpdnaaXSmall
import Derived.Test.YtkakiblnhgpdnaaXEdge
import Derived.Test.YtkakiblnhgpdnaaXWithin
namespace Go.Proofs.Ytkakiblnhgpdnaa.Pure
set_option linter.unusedVariables false
set_option linter.unusedSimpArgs false
open Go.RowKit Go.Proofs.Ytkakiblnhgpdnaa.PR Go.Proofs.YtkakiblnhgpdnaaW.PrintWords Go.Proofs.YtkakiblnhgpdnaaW.PrintLast Go.Proofs.YtkakiblnhgpdnaaW.PrintMore Go.Proofs.Ytkakiblnhgpdnaa.XWords Go.Proofs.Ytkakiblnhgpdnaa.XPure
theorem whole_min {w h r s : Int} {D : Int → Int → Prop} (hD : ∀ u v, D u v → 0 ≤ u ∧ u < w ∧ 0 ≤ v ∧ v < h) (hr : 0 ≤ r) (hs : 0 ≤ s) {x y : Int} (hx0 : 0 ≤ x) (hx : x < w) (hy0 : 0 ≤ y) (hy : y < h) : Whole (min r w) (min s h) D x y ↔ Whole r s D x y := by
  by_cases hc : r ≤ w ∧ s ≤ h
  · have e1 : min r w = r := by omega
    have e2 : min s h = s := by omega
    rw [e1, e2]
  · constructor
    · intro hh
      exfalso
      have h1 := hD _ _ (hh (x - min r w) y (by omega) (by omega) (by omega) (by omega))
      have h2 := hD _ _ (hh x (y - min s h) (by omega) (by omega) (by omega) (by omega))
      omega
    · intro hh u v a b c d
      exact hh u v (by omega) (by omega) (by omega) (by omega)
theorem whole_row {D : Int → Int → Prop} {x y : Int} : Whole 1 0 D x y ↔ D (x - 1) y ∧ D x y ∧ D (x + 1) y := by
  constructor
  · intro hh
    exact ⟨hh _ _ (by omega) (by omega) (by omega) (by omega), hh _ _ (by omega) (by omega) (by omega) (by omega), hh _ _ (by omega) (by omega) (by omega) (by omega)⟩
  · rintro ⟨h1, h2, h3⟩ u v a b c d
    have e : v = y := by omega
    rw [e]
    obtain e | e | e : u = x - 1 ∨ u = x ∨ u = x + 1 := by omega
    all_goals rw [e]; assumption
theorem whole_col {D : Int → Int → Prop} {x y : Int} : Whole 0 1 D x y ↔ D x (y - 1) ∧ D x y ∧ D x (y + 1) := by
  constructor
  · intro hh
    exact ⟨hh _ _ (by omega) (by omega) (by omega) (by omega), hh _ _ (by omega) (by omega) (by omega) (by omega), hh _ _ (by omega) (by omega) (by omega) (by omega)⟩
  · rintro ⟨h1, h2, h3⟩ u v a b c d
    have e : u = x := by omega
    rw [e]
    obtain e | e | e : v = y - 1 ∨ v = y ∨ v = y + 1 := by omega
    all_goals rw [e]; assumption
theorem MorphologyOutline : barscanlaw37_MorphologyOutline.Pure := by
  intro w h l hw hh hl
  refine Ev.rounds (g := fun k => barscanlaw37_MorphologyOutline.f k w h l) ?_
  have he : Ev (fun k => (barscanlaw37_examples.f k).bind fun t => some t) true := Ev.bind examples_ok (Ev.now _)
  unfold barscanlaw37_MorphologyOutline.f
  obtain ⟨b, hb, hB⟩ := small_eq w h l
  rw [hb]
  simp only [Option.bind_some]
  by_cases ht : b = true
  case neg =>
    simp only [if_neg ht]
    exact he
  obtain ⟨V, B1, B2, B3⟩ := hB ht
  have hlen := V.2
  have hw1 := V.1.1
  have hh1 := V.1.2.2.1
  have hb3 := V.1.2.2.2.2
  simp only [if_pos ht]
  have hR0 : Rad 0 := ⟨by decide, by decide⟩
  have hR1 : Rad 1 := ⟨by decide, by decide⟩
  obtain ⟨LA, SA, EA⟩ := outline_ok V
  obtain ⟨LB, SB, EB⟩ := erode_ok V hR1 hR0
  obtain ⟨LC, SC, EC⟩ := erode_ok V hR0 hR1
  have me := shows_self V
  have hin : ∀ u v, Dk w h l u v → 0 ≤ u ∧ u < w ∧ 0 ≤ v ∧ v < h := fun u v hd => dk_in hd
  have la := SA.len
  have lb := SB.len
  have lc := SC.len
  refine Ev.bind EA (Ev.bind EB (Ev.bind EC ?_))
  simp only [if_true]
  refine Ev.bind (within_shows hw1 SA me (by omega) (fun x y _ _ _ _ hp => hp.1)) ?_
  simp only [if_true]
  refine Ev.bind (within_shows hw1 SB me (by omega) (fun x y a b c d hp => hp x y (by omega) (by omega) (by omega) (by omega))) ?_
  simp only [if_true]
  refine Ev.bind (within_shows hw1 SC me (by omega) (fun x y a b c d hp => hp x y (by omega) (by omega) (by omega) (by omega))) ?_
  simp only [if_true]
  refine ev_loop (fun k i (_ : Unit) => barscanlaw37_MorphologyOutline.l0 k l l.length i w h LA w h LB w h LC) 0 l.length (by omega) (fun _ _ => True) _ ?_ ?_ () trivial
  · intro i s hi0 hi _ K
    have m0 := Int.emod_nonneg i (show w ≠ 0 by omega)
    have m1 := Int.emod_lt_of_pos i (show 0 < w by omega)
    have m2 : 0 ≤ i / w := Int.ediv_nonneg hi0 (by omega)
    have m3 : i / w < h := div_lt (by omega) (by omega)
    have hrd : ∀ m : List Bool, rdOf false m i = m.getD (i / w * w + i % w).toNat false := fun m => by rw [mod_div (by omega)]; rfl
    have hA := SA.read _ _ m0 m1 m2 m3
    have hB := SB.read _ _ m0 m1 m2 m3
    have hC := SC.read _ _ m0 m1 m2 m3
    have hD := me.read _ _ m0 m1 m2 m3
    rw [← hrd] at hA hB hC hD
    rw [whole_min hin (by omega) (by omega) m0 m1 m2 m3, whole_row] at hB
    rw [whole_min hin (by omega) (by omega) m0 m1 m2 m3, whole_col] at hC
    have hn : inn w h l (i % w) (i / w) = true ↔ Dk w h l (i % w - 1) (i / w) ∧ Dk w h l (i % w + 1) (i / w) ∧ Dk w h l (i % w) (i / w - 1) ∧ Dk w h l (i % w) (i / w + 1) := by
      unfold inn Dk
      simp only [Bool.and_eq_true]
    have hBC : (rdOf false LB i = true ∧ rdOf false LC i = true) ↔ (rdOf false l i = true ∧ inn w h l (i % w) (i / w) = true) := by
      rw [hB, hC, hD, hn]
      constructor
      · rintro ⟨⟨x1, x2, x3⟩, x4, x5, x6⟩
        exact ⟨x2, x1, x3, x4, x6⟩
      · rintro ⟨x2, x1, x3, x4, x6⟩
        exact ⟨⟨x1, x2, x3⟩, x4, x2, x6⟩
    rw [← hD] at hA
    refine Ev.step (f := fun k => barscanlaw37_MorphologyOutline.l0 k l l.length (i + 1) w h LA w h LB w h LC) (fun k => ?_) (K () trivial)
    simp only [barscanlaw37_MorphologyOutline.l0]
    rw [if_pos hi, if_pos hi0, if_pos hi]
    simp only [if_pos (show i < ((LA.length : Nat) : Int) by omega), if_pos (show i < ((LB.length : Nat) : Int) by omega), if_pos (show i < ((LC.length : Nat) : Int) by omega), w64 (n := i + 1) (by omega)]
    generalize barscanlaw37_MorphologyOutline.l0 k l l.length (i + 1) w h LA w h LB w h LC = z
    revert hA hBC
    generalize rdOf false l i = d
    generalize rdOf false LA i = A
    generalize rdOf false LB i = B
    generalize rdOf false LC i = C
    generalize inn w h l (i % w) (i / w) = n
    clear hB hC hD hn
    cases d <;> cases A <;> cases B <;> cases C <;> cases n <;> simp
  · intro s _
    refine Ev.step (f := fun k => (barscanlaw37_examples.f k).bind fun t => some t) (fun k => ?_) he
    simp only [barscanlaw37_MorphologyOutline.l0]
    rw [if_neg (by omega)]
end Go.Proofs.Ytkakiblnhgpdnaa.Pure
