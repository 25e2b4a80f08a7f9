/-
The reference's Open and Close, told by boxes. Conditions: as each theorem says.
-/
import Derived.Test.YtkakiblnhgpdnaaXRef37
import Derived.Test.YtkakiblnhgpdnaaPRx12
import Derived.Test.YtkakiblnhgpdnaaPRx12
import Derived.Test.YtkakiblnhgpdnaaPRx13
namespace Go.Proofs.Ytkakiblnhgpdnaa.Pure
set_option linter.unusedVariables false
set_option linter.unusedSimpArgs false
open Go.RowKit Go.Proofs.Ytkakiblnhgpdnaa.PR Go.Proofs.YtkakiblnhgpdnaaW.PrintWords Go.Proofs.YtkakiblnhgpdnaaW.PrintLast Go.Proofs.YtkakiblnhgpdnaaW.PrintMore Go.Proofs.Ytkakiblnhgpdnaa.XWords Go.Proofs.Ytkakiblnhgpdnaa.XPure
theorem whole_min {w h r s : Int} {D : Int → Int → Prop} (hD : ∀ u v, D u v → 0 ≤ u ∧ u < w ∧ 0 ≤ v ∧ v < h) (hr : 0 ≤ r) (hs : 0 ≤ s) {x y : Int} (hx0 : 0 ≤ x) (hx : x < w) (hy0 : 0 ≤ y) (hy : y < h) : Whole (min r w) (min s h) D x y ↔ Whole r s D x y := by
  by_cases hc : r ≤ w ∧ s ≤ h
  · have e1 : min r w = r := by omega
    have e2 : min s h = s := by omega
    rw [e1, e2]
  · constructor
    · intro hh
      exfalso
      have h1 := hD _ _ (hh (x - min r w) y (by omega) (by omega) (by omega) (by omega))
      have h2 := hD _ _ (hh x (y - min s h) (by omega) (by omega) (by omega) (by omega))
      omega
    · intro hh u v a b c d
      exact hh u v (by omega) (by omega) (by omega) (by omega)
theorem part_min {w h r s : Int} {D : Int → Int → Prop} (hD : ∀ u v, D u v → 0 ≤ u ∧ u < w ∧ 0 ≤ v ∧ v < h) (hr : 0 ≤ r) (hs : 0 ≤ s) {x y : Int} (hx0 : 0 ≤ x) (hx : x < w) (hy0 : 0 ≤ y) (hy : y < h) : Part (min r w) (min s h) D x y ↔ Part r s D x y := by
  constructor
  · rintro ⟨u, v, a, b, c, d, hp⟩
    exact ⟨u, v, by omega, by omega, by omega, by omega, hp⟩
  · rintro ⟨u, v, a, b, c, d, hp⟩
    have := hD u v hp
    exact ⟨u, v, by omega, by omega, by omega, by omega, hp⟩
theorem near_ok {w h : Int} {l : List Bool} {x y r s : Int} (V : Valid w h l.length) (hr : Rad r) (hs : Rad s) (hx0 : 0 ≤ x) (hx : x < w) (hy0 : 0 ≤ y) (hy : y < h) :
    Ev (fun k => barscanref37_near.f k w h l x y r s) (@decide (Whole r s (Part r s (Dk w h l)) x y) (Classical.propDecidable _)) := by
  obtain ⟨G1, G2, G3, G4, G5⟩ := id V.1
  obtain ⟨hr0, hr2⟩ := id hr
  obtain ⟨hs0, hs2⟩ := id hs
  unfold barscanref37_near.f
  rw [w64 (n := y - s) (by omega)]
  refine ev_loop (fun k j (_ : Unit) => barscanref37_near.l0 k x y r s j w h l) (y - s) (y + s + 1) (by omega) (fun j _ => ∀ u v, x - r ≤ u → u ≤ x + r → y - s ≤ v → v < j → Part r s (Dk w h l) u v) _ ?_ ?_ () (fun u v _ _ _ _ => by omega)
  · intro j _ hj1 hj2 hI K
    refine Ev.step (f := fun k => barscanref37_near.l1 k x y r s j (x - r) w h l) (fun k => ?_) ?_
    · simp only [barscanref37_near.l0]
      rw [w64 (n := y + s) (by omega), if_pos (by omega), w64 (n := x - r) (by omega)]
    refine ev_loop (fun k i (_ : Unit) => barscanref37_near.l1 k x y r s j i w h l) (x - r) (x + r + 1) (by omega) (fun i _ => ∀ u, x - r ≤ u → u < i → Part r s (Dk w h l) u j) _ ?_ ?_ () (fun u _ _ => by omega)
    · intro i _ hi1 hi2 hJ K2
      have hp := around_part (D := pix false w h l) (x := i) (y := j) hr0 hs0
      have h0 := (around_range (D := pix false w h l) (x := i) (y := j) hr0 hr2 hs0 hs2).1
      refine Ev.step (f := fun k => (barscanref37_count.f k w h l i j r s).bind fun t => if t = 0 then some false else barscanref37_near.l1 k x y r s j (i + 1) w h l) (fun k => ?_) (Ev.bind (count_ok V hr hs (by omega) (by omega)) ?_)
      · simp only [barscanref37_near.l1]
        rw [w64 (n := x + r) (by omega), if_pos (by omega), w64 (n := i + 1) (by omega)]
      · by_cases hz : around (pix false w h l) r s i j = 0
        · simp only [if_pos hz]
          have hn : ¬ Whole r s (Part r s (Dk w h l)) x y := fun hh => by
            have := hp.2 (hh i j (by omega) (by omega) (by omega) (by omega))
            omega
          rw [@decide_eq_false _ (Classical.propDecidable _) hn]
          exact Ev.now _
        · simp only [if_neg hz]
          refine K2 () (fun u h1 h2 => ?_)
          by_cases hu : u = i
          · rw [hu]
            exact hp.1 (by omega)
          · exact hJ u h1 (by omega)
    · intro _ hJ
      refine Ev.step (f := fun k => barscanref37_near.l0 k x y r s (j + 1) w h l) (fun k => ?_) (K () (fun u v h1 h2 h3 h4 => ?_))
      · simp only [barscanref37_near.l1]
        rw [w64 (n := x + r) (by omega), if_neg (by omega), w64 (n := j + 1) (by omega)]
      · by_cases hv : v = j
        · rw [hv]
          exact hJ u h1 (by omega)
        · exact hI u v h1 h2 h3 (by omega)
  · intro _ hI
    have hw : Whole r s (Part r s (Dk w h l)) x y := fun u v h1 h2 h3 h4 => hI u v h1 h2 h3 (by omega)
    rw [@decide_eq_true _ (Classical.propDecidable _) hw]
    refine ev_end (fun k => ?_)
    simp only [barscanref37_near.l0]
    rw [w64 (n := y + s) (by omega), if_neg (by omega)]
theorem refClose_ok {w h : Int} {l : List Bool} {r s : Int} (V : Valid w h l.length) (hr : Rad r) (hs : Rad s) :
    Ev (fun k => barscanref37_Close.f k w h l r s) (w, h, upto w (fun x y => @decide (Whole r s (Part r s (Dk w h l)) x y) (Classical.propDecidable _)) (w * h).toNat, 0) := by
  obtain ⟨G1, G2, G3, G4, G5⟩ := id V.1
  have hl := V.2
  unfold barscanref37_Close.f
  rw [refCheck37_eq, if_pos V, if_pos ⟨hr, hs⟩]
  simp only [Option.bind_some, if_true]
  refine ev_loop (fun k i acc => barscanref37_Close.l0 k r s i w h l w h acc) 0 l.length (by omega) (fun i acc => acc = upto w (fun x y => @decide (Whole r s (Part r s (Dk w h l)) x y) (Classical.propDecidable _)) i.toNat) _ ?_ ?_ _ (by simp [upto_zero])
  · intro i acc hi0 hi hI K
    have m0 := Int.emod_nonneg i (show w ≠ 0 by omega)
    have m1 := Int.emod_lt_of_pos i (show 0 < w by omega)
    have m2 : 0 ≤ i / w := Int.ediv_nonneg hi0 (by omega)
    have m3 : i / w < h := div_lt (by omega) (by omega)
    have hacc : acc.length = i.toNat := by rw [hI, upto_length]
    have e : (i + 1).toNat = i.toNat + 1 := by omega
    refine Ev.step (f := fun k => (barscanref37_near.f k w h l (i % w) (i / w) r s).bind fun t => if acc.length < 140737488355328 then barscanref37_Close.l0 k r s (i + 1) w h l w h (acc ++ [t]) else none) (fun k => ?_) (Ev.bind (near_ok V hr hs m0 m1 m2 m3) ?_)
    · simp only [barscanref37_Close.l0]
      rw [if_pos hi, if_neg (by omega), Int.tmod_eq_emod_of_nonneg hi0, Int.tdiv_eq_ediv_of_nonneg hi0, w64 (n := i / w) (by omega), w64 (n := i + 1) (by omega)]
    · simp only [if_pos (show acc.length < 140737488355328 by omega)]
      refine K _ ?_
      rw [e, upto_push (u := i % w) (v := i / w) m0 m1 (by rw [mod_div (by omega)]; omega), hI]
  · intro acc hI
    refine ev_end (fun k => ?_)
    simp only [barscanref37_Close.l0]
    have e : ((l.length : Nat) : Int).toNat = (w * h).toNat := by omega
    rw [if_neg (by omega), hI, e]
theorem refOpen_ok {w h : Int} {l : List Bool} {r s : Int} (V : Valid w h l.length) (hr : Rad r) (hs : Rad s) : ∃ L, Shows w h L (Part r s (Whole r s (Dk w h l))) ∧ Ev (fun k => barscanref37_Open.f k w h l r s) (w, h, L, 0) := by
  have hX : Shows w h (upto w (fun x y => (around (pix false w h l) r s x y == (2 * r + 1) * (2 * s + 1))) (w * h).toNat) (Whole r s (Dk w h l)) := shows_upto V.1.1 V.1.2.2.1 (fun x y _ _ _ _ => ero_iff hr hs)
  have hE := refErode_ok V hr hs
  generalize upto w (fun x y => (around (pix false w h l) r s x y == (2 * r + 1) * (2 * s + 1))) (w * h).toNat = L at hX hE
  have hD := refDilate_ok (shows_valid V hX) hr hs
  have hO : Ev (fun k => barscanref37_Open.f k w h l r s) (w, h, upto w (fun x y => decide (around (pix false w h L) r s x y > 0)) (w * h).toNat, 0) := by
    unfold barscanref37_Open.f
    refine Ev.bind hE ?_
    simp only [if_true]
    exact Ev.bind hD (Ev.now _)
  refine ⟨_, ?_, hO⟩
  refine shows_upto V.1.1 V.1.2.2.1 (fun x y a b c d => ?_)
  refine Iff.trans (dil_iff (D := pix false w h L) (x := x) (y := y) hr hs) ?_
  constructor
  · rintro ⟨u, v, h1, h2, h3, h4, hp⟩
    exact ⟨u, v, h1, h2, h3, h4, ((shows_dk hX u v).1 hp).2⟩
  · rintro ⟨u, v, h1, h2, h3, h4, hp⟩
    have hin := dk_in (hp u v (by have := hr.1; omega) (by have := hr.1; omega) (by have := hs.1; omega) (by have := hs.1; omega))
    exact ⟨u, v, h1, h2, h3, h4, (shows_dk hX u v).2 ⟨hin, hp⟩⟩
theorem refOpen_bad {w h : Int} {l : List Bool} {r s : Int} (B : ¬ (Valid w h l.length ∧ Rad r ∧ Rad s)) :
    (Ev (fun k => barscanref37_Open.f k w h l r s) (0, 0, [], if Valid w h l.length then 3 else 1)) ∧ (∀ k, barscanref37_Close.f k w h l r s = some (0, 0, [], if Valid w h l.length then 3 else 1)) := by
  constructor
  · unfold barscanref37_Open.f
    refine Ev.bind ⟨0, fun k _ => (refOp_bad B).1 k⟩ ?_
    have : ¬ ((if Valid w h l.length then (3 : Int) else 1) = 0) := by split <;> decide
    simp only [if_neg this]
    exact Ev.now _
  · unfold barscanref37_Close.f
    rw [refCheck37_eq]
    by_cases V : Valid w h l.length
    · have hR : ¬ (Rad r ∧ Rad s) := fun hh => B ⟨V, hh⟩
      simp only [if_pos V, if_neg hR]
      exact fun k => rfl
    · simp only [if_neg V]
      exact fun k => rfl
/-- Opening: a radius beyond the size leaves nothing, as the size does. -/
theorem open_min {w h r s : Int} {D : Int → Int → Prop} (hD : ∀ u v, D u v → 0 ≤ u ∧ u < w ∧ 0 ≤ v ∧ v < h) (hw : 1 ≤ w) (hh : 1 ≤ h) (hr : 0 ≤ r) (hs : 0 ≤ s) {x y : Int} : Part (min r w) (min s h) (Whole (min r w) (min s h) D) x y ↔ Part r s (Whole r s D) x y := by
  by_cases hc : r ≤ w ∧ s ≤ h
  · have e1 : min r w = r := by omega
    have e2 : min s h = s := by omega
    rw [e1, e2]
  · constructor
    · rintro ⟨u, v, _, _, _, _, hp⟩
      exfalso
      have h1 := hD _ _ (hp (u - min r w) (v - min s h) (by omega) (by omega) (by omega) (by omega))
      have h2 := hD _ _ (hp (u + min r w) (v + min s h) (by omega) (by omega) (by omega) (by omega))
      omega
    · rintro ⟨u, v, _, _, _, _, hp⟩
      exfalso
      have h1 := hD _ _ (hp (u - r) (v - s) (by omega) (by omega) (by omega) (by omega))
      have h2 := hD _ _ (hp (u + r) (v + s) (by omega) (by omega) (by omega) (by omega))
      omega
theorem close_min {w h r s : Int} {D : Int → Int → Prop} (hD : ∀ u v, D u v → 0 ≤ u ∧ u < w ∧ 0 ≤ v ∧ v < h) (hr : 0 ≤ r) (hs : 0 ≤ s) {x y : Int} (hx0 : 0 ≤ x) (hx : x < w) (hy0 : 0 ≤ y) (hy : y < h) : Whole (min r w) (min s h) (Part (min r w) (min s h) D) x y ↔ Whole r s (Part r s D) x y := by
  have near : ∀ {w r x p : Int}, 0 ≤ r → 0 ≤ x → x < w → x - r ≤ p → p ≤ x + r → ∃ q, x - min r w ≤ q ∧ q ≤ x + min r w ∧ ∀ u, 0 ≤ u → u < w → q - min r w ≤ u → u ≤ q + min r w → p - r ≤ u ∧ u ≤ p + r := by
    intro w r x p h0 h1 h2 h3 h4
    by_cases hc : r ≤ w
    · have e : min r w = r := by omega
      rw [e]
      exact ⟨p, h3, h4, fun u _ _ a b => ⟨a, b⟩⟩
    · by_cases hp : p ≤ x
      · exact ⟨x - min r w, by omega, by omega, fun u _ _ a b => by omega⟩
      · exact ⟨x + min r w, by omega, by omega, fun u _ _ a b => by omega⟩
  have far : ∀ {w r x q : Int}, 0 ≤ r → 0 ≤ x → x < w → x - min r w ≤ q → q ≤ x + min r w → ∃ p, x - r ≤ p ∧ p ≤ x + r ∧ ∀ u, 0 ≤ u → u < w → p - r ≤ u → u ≤ p + r → q - min r w ≤ u ∧ u ≤ q + min r w := by
    intro w r x q h0 h1 h2 h3 h4
    by_cases hc : r ≤ w
    · have e : min r w = r := by omega
      rw [e] at h3 h4 ⊢
      exact ⟨q, h3, h4, fun u _ _ a b => ⟨a, b⟩⟩
    · by_cases hq : q ≤ x
      · exact ⟨x - r, by omega, by omega, fun u _ _ a b => by omega⟩
      · exact ⟨x + r, by omega, by omega, fun u _ _ a b => by omega⟩
  constructor
  · intro hh p p' a b c d
    obtain ⟨q, q1, q2, q3⟩ := near hr hx0 hx a b
    obtain ⟨q', q1', q2', q3'⟩ := near hs hy0 hy c d
    obtain ⟨u, v, e1, e2, e3, e4, hd⟩ := hh q q' q1 q2 q1' q2'
    have hi := hD u v hd
    have f1 := q3 u hi.1 hi.2.1 e1 e2
    have f2 := q3' v hi.2.2.1 hi.2.2.2 e3 e4
    exact ⟨u, v, f1.1, f1.2, f2.1, f2.2, hd⟩
  · intro hh p p' a b c d
    obtain ⟨q, q1, q2, q3⟩ := far hr hx0 hx a b
    obtain ⟨q', q1', q2', q3'⟩ := far hs hy0 hy c d
    obtain ⟨u, v, e1, e2, e3, e4, hd⟩ := hh q q' q1 q2 q1' q2'
    have hi := hD u v hd
    have f1 := q3 u hi.1 hi.2.1 e1 e2
    have f2 := q3' v hi.2.2.1 hi.2.2.2 e3 e4
    exact ⟨u, v, f1.1, f1.2, f2.1, f2.2, hd⟩
end Go.Proofs.Ytkakiblnhgpdnaa.Pure
