/-
MorphologyRadii, over numbers and rows alone: two dilations or erosions are one with the sums of the radii, and radii of 0 change nothing. Conditions: none.
-/
import Derived.Test.YtkakiblnhgpdnaaStmtMorphologyRadii
import Derived.Test.YtkakiblnhgpdnaaXSmall
namespace Go.Proofs.Ytkakiblnhgpdnaa.Pure
set_option linter.unusedVariables false
set_option linter.unusedSimpArgs false
open Go.RowKit Go.Proofs.Ytkakiblnhgpdnaa.PR Go.Proofs.YtkakiblnhgpdnaaW.PrintWords Go.Proofs.YtkakiblnhgpdnaaW.PrintLast Go.Proofs.YtkakiblnhgpdnaaW.PrintMore Go.Proofs.Ytkakiblnhgpdnaa.XWords Go.Proofs.Ytkakiblnhgpdnaa.XPure
theorem whole_min {w h r s : Int} {D : Int → Int → Prop} (hD : ∀ u v, D u v → 0 ≤ u ∧ u < w ∧ 0 ≤ v ∧ v < h) (hr : 0 ≤ r) (hs : 0 ≤ s) {x y : Int} (hx0 : 0 ≤ x) (hx : x < w) (hy0 : 0 ≤ y) (hy : y < h) : Whole (min r w) (min s h) D x y ↔ Whole r s D x y := by
  by_cases hc : r ≤ w ∧ s ≤ h
  · have e1 : min r w = r := by omega
    have e2 : min s h = s := by omega
    rw [e1, e2]
  · constructor
    · intro hh
      exfalso
      have h1 := hD _ _ (hh (x - min r w) y (by omega) (by omega) (by omega) (by omega))
      have h2 := hD _ _ (hh x (y - min s h) (by omega) (by omega) (by omega) (by omega))
      omega
    · intro hh u v a b c d
      exact hh u v (by omega) (by omega) (by omega) (by omega)
theorem part_min {w h r s : Int} {D : Int → Int → Prop} (hD : ∀ u v, D u v → 0 ≤ u ∧ u < w ∧ 0 ≤ v ∧ v < h) (hr : 0 ≤ r) (hs : 0 ≤ s) {x y : Int} (hx0 : 0 ≤ x) (hx : x < w) (hy0 : 0 ≤ y) (hy : y < h) : Part (min r w) (min s h) D x y ↔ Part r s D x y := by
  constructor
  · rintro ⟨u, v, a, b, c, d, hp⟩
    exact ⟨u, v, by omega, by omega, by omega, by omega, hp⟩
  · rintro ⟨u, v, a, b, c, d, hp⟩
    have := hD u v hp
    exact ⟨u, v, by omega, by omega, by omega, by omega, hp⟩
theorem mod21 {a : Int} (ha : (Lit.int .u8 a).wf = true) : wrap64 (Int.tmod a 21) = a % 21 ∧ 0 ≤ a % 21 ∧ a % 21 ≤ 20 := by
  have := wf_u8 ha
  rw [Int.tmod_eq_emod_of_nonneg this.1]
  have h1 := Int.emod_nonneg a (show (21 : Int) ≠ 0 by decide)
  have h2 := Int.emod_lt_of_pos a (show (0 : Int) < 21 by decide)
  exact ⟨w64 (by omega), h1, by omega⟩
theorem majority_shows {w h : Int} {l : List Bool} {r : Int} (V : Valid w h l.length) (hr : Rad r) : ∃ L, Shows w h L (fun x y => 2 * around (pix false w h l) r r x y > (2 * r + 1) * (2 * r + 1)) ∧ Ev (fun k => morphology_Majority.f k w h l r) (w, h, L, 0) := by
  have hE := majority_ok V hr
  refine ⟨_, ?_, hE⟩
  refine shows_upto V.1.1 V.1.2.2.1 (fun x y a b c d => ?_)
  rw [Int.add_zero, Int.add_zero, fence_in a b c d, decide_eq_true_iff]
theorem part_sum {w h p q r s : Int} {D : Int → Int → Prop} (hD : ∀ u v, D u v → 0 ≤ u ∧ u < w ∧ 0 ≤ v ∧ v < h) (hp : 0 ≤ p) (hq : 0 ≤ q) (hr : 0 ≤ r) (hs : 0 ≤ s) {x y : Int} (hx0 : 0 ≤ x) (hx : x < w) (hy0 : 0 ≤ y) (hy : y < h) :
    Part r s (fun u v => (0 ≤ u ∧ u < w ∧ 0 ≤ v ∧ v < h) ∧ Part p q D u v) x y ↔ Part (p + r) (q + s) D x y := by
  constructor
  · rintro ⟨u, v, a, b, c, d, hi, u2, v2, a2, b2, c2, d2, hd⟩
    exact ⟨u2, v2, by omega, by omega, by omega, by omega, hd⟩
  · rintro ⟨u, v, a, b, c, d, hd⟩
    have hi := hD u v hd
    exact ⟨max (x - r) (min (x + r) u), max (y - s) (min (y + s) v), by omega, by omega, by omega, by omega, by omega, u, v, by omega, by omega, by omega, by omega, hd⟩
theorem whole_sum {w h p q r s : Int} {D : Int → Int → Prop} (hD : ∀ u v, D u v → 0 ≤ u ∧ u < w ∧ 0 ≤ v ∧ v < h) (hp : 0 ≤ p) (hq : 0 ≤ q) (hr : 0 ≤ r) (hs : 0 ≤ s) {x y : Int} :
    Whole r s (fun u v => (0 ≤ u ∧ u < w ∧ 0 ≤ v ∧ v < h) ∧ Whole p q D u v) x y ↔ Whole (p + r) (q + s) D x y := by
  constructor
  · intro hh u v a b c d
    exact (hh (max (x - r) (min (x + r) u)) (max (y - s) (min (y + s) v)) (by omega) (by omega) (by omega) (by omega)).2 u v (by omega) (by omega) (by omega) (by omega)
  · intro hh u v a b c d
    exact ⟨hD u v (hh u v (by omega) (by omega) (by omega) (by omega)), fun u2 v2 a2 b2 c2 d2 => hh u2 v2 (by omega) (by omega) (by omega) (by omega)⟩
theorem part_congr {r s : Int} {P Q : Int → Int → Prop} (h : ∀ u v, P u v ↔ Q u v) {x y : Int} : Part r s P x y ↔ Part r s Q x y := by
  constructor
  · rintro ⟨u, v, a, b, c, d, e⟩; exact ⟨u, v, a, b, c, d, (h u v).1 e⟩
  · rintro ⟨u, v, a, b, c, d, e⟩; exact ⟨u, v, a, b, c, d, (h u v).2 e⟩
theorem whole_congr {r s : Int} {P Q : Int → Int → Prop} (h : ∀ u v, P u v ↔ Q u v) {x y : Int} : Whole r s P x y ↔ Whole r s Q x y := ⟨fun hh u v a b c d => (h u v).1 (hh u v a b c d), fun hh u v a b c d => (h u v).2 (hh u v a b c d)⟩
theorem whole_none {D : Int → Int → Prop} {x y : Int} : Whole 0 0 D x y ↔ D x y := by
  constructor
  · intro hh; exact hh x y (by omega) (by omega) (by omega) (by omega)
  · intro hd u v a b c d
    have e1 : u = x := by omega
    have e2 : v = y := by omega
    rw [e1, e2]; exact hd
theorem part_none {D : Int → Int → Prop} {x y : Int} : Part 0 0 D x y ↔ D x y := by
  constructor
  · rintro ⟨u, v, a, b, c, d, hd⟩
    have e1 : u = x := by omega
    have e2 : v = y := by omega
    rw [e1, e2] at hd; exact hd
  · intro hd; exact ⟨x, y, by omega, by omega, by omega, by omega, hd⟩
theorem alike_ok (w h : Int) (l : List Bool) (xs : List S24) (hn : xs.length ≤ 100) (hs : l.length ≤ 4194304) (H : ∀ i : Int, 0 ≤ i → i < xs.length → rd_T24 xs i = ⟨w, h, l⟩) :
    Ev (fun k => barscanlaw37_MorphologyRadii.l0 k xs xs.length 0 w h l) true := by
  have he : Ev (fun k => (barscanlaw37_examples.f k).bind fun t => some t) true := Ev.bind examples_ok (Ev.now _)
  refine ev_loop (fun k i (_ : Unit) => barscanlaw37_MorphologyRadii.l0 k xs xs.length i w h l) 0 xs.length (by omega) (fun _ _ => True) _ ?_ ?_ () trivial
  · intro i s hi0 hi hI K
    refine Ev.step (f := fun k => (barscanlaw37_same.f k w h l w h l).bind fun t => if t = true then barscanlaw37_MorphologyRadii.l0 k xs xs.length (i + 1) w h l else none) (fun k => ?_) (Ev.bind (same_self _ _ _ hs) ?_)
    · simp only [barscanlaw37_MorphologyRadii.l0]
      rw [if_pos hi, if_pos hi0, if_pos hi, H i hi0 hi, w64 (n := i + 1) (by omega)]
    · simp only [if_true]
      exact K () trivial
  · intro s hI
    refine Ev.step (f := fun k => (barscanlaw37_examples.f k).bind fun t => some t) (fun k => ?_) he
    simp only [barscanlaw37_MorphologyRadii.l0]
    rw [if_neg (by omega)]
theorem MorphologyRadii : barscanlaw37_MorphologyRadii.Pure := by
  intro w h l a1 a2 a3 a4 hw hh hl h1 h2 h3 h4
  refine Ev.rounds (g := fun k => barscanlaw37_MorphologyRadii.f k w h l a1 a2 a3 a4) ?_
  have he : Ev (fun k => (barscanlaw37_examples.f k).bind fun t => some t) true := Ev.bind examples_ok (Ev.now _)
  unfold barscanlaw37_MorphologyRadii.f
  obtain ⟨b, hb, hB⟩ := small_eq w h l
  rw [hb]
  simp only [Option.bind_some]
  by_cases ht : b = true
  case neg =>
    simp only [if_neg ht]
    exact he
  obtain ⟨V, B1, B2, B3⟩ := hB ht
  have hlen := V.2
  obtain ⟨e1, p0, p1⟩ := mod21 h1
  obtain ⟨e2, q0, q1⟩ := mod21 h2
  obtain ⟨e3, r0, r1⟩ := mod21 h3
  obtain ⟨e4, s0, s1⟩ := mod21 h4
  rw [e1, e2, e3, e4]
  generalize a1 % 21 = p at *
  generalize a2 % 21 = q at *
  generalize a3 % 21 = r at *
  generalize a4 % 21 = s at *
  rw [w64 (n := p + r) (by omega), w64 (n := q + s) (by omega)]
  simp only [if_pos ht]
  have hp : Rad p := ⟨p0, by omega⟩
  have hq : Rad q := ⟨q0, by omega⟩
  have hr : Rad r := ⟨r0, by omega⟩
  have hs : Rad s := ⟨s0, by omega⟩
  have hpr : Rad (p + r) := ⟨by omega, by omega⟩
  have hqs : Rad (q + s) := ⟨by omega, by omega⟩
  have hR0 : Rad 0 := ⟨by decide, by decide⟩
  have hin : ∀ {m : List Bool} (u v : Int), Dk w h m u v → 0 ≤ u ∧ u < w ∧ 0 ≤ v ∧ v < h := fun u v hd => dk_in hd
  obtain ⟨L1, S1, E1⟩ := dilate_ok V hp hq
  obtain ⟨L2, S2, E2⟩ := dilate_ok (shows_valid V S1) hr hs
  obtain ⟨L3, S3, E3⟩ := dilate_ok V hpr hqs
  obtain ⟨M1, T1, F1⟩ := erode_ok V hp hq
  obtain ⟨M2, T2, F2⟩ := erode_ok (shows_valid V T1) hr hs
  obtain ⟨M3, T3, F3⟩ := erode_ok V hpr hqs
  have hw1 := V.1.1
  have hh1 := V.1.2.2.1
  have d1 : ∀ u v, Dk w h L1 u v ↔ (0 ≤ u ∧ u < w ∧ 0 ≤ v ∧ v < h) ∧ Part p q (Dk w h l) u v := fun u v => by
    rw [shows_dk S1]
    exact and_congr_right fun hi => part_min hin p0 q0 hi.1 hi.2.1 hi.2.2.1 hi.2.2.2
  have d2 : ∀ u v, Dk w h M1 u v ↔ (0 ≤ u ∧ u < w ∧ 0 ≤ v ∧ v < h) ∧ Whole p q (Dk w h l) u v := fun u v => by
    rw [shows_dk T1]
    exact and_congr_right fun hi => whole_min hin p0 q0 hi.1 hi.2.1 hi.2.2.1 hi.2.2.2
  have x1 : L2 = L3 := shows_eq hw1 S2 S3 (fun x y a b c d => by
    rw [part_min hin r0 s0 a b c d, part_min hin (by omega) (by omega) a b c d, part_congr d1]
    exact part_sum hin p0 q0 r0 s0 a b c d)
  have x2 : M2 = M3 := shows_eq hw1 T2 T3 (fun x y a b c d => by
    rw [whole_min hin r0 s0 a b c d, whole_min hin (by omega) (by omega) a b c d, whole_congr d2]
    exact whole_sum hin p0 q0 r0 s0)
  subst x1
  subst x2
  refine Ev.bind E1 (Ev.bind E2 (Ev.bind E3 (Ev.bind F1 (Ev.bind F2 (Ev.bind F3 ?_)))))
  simp only [if_true]
  have hb1 := S2.len
  have hb2 := T2.len
  have hb3 := V.1.2.2.2.2
  refine Ev.bind (same_self _ _ _ (by omega)) ?_
  simp only [if_true]
  refine Ev.bind (same_self _ _ _ (by omega)) ?_
  simp only [if_true]
  have z1 : min (0 : Int) w = 0 := by omega
  have z2 : min (0 : Int) h = 0 := by omega
  have me := shows_self V
  have o1 : Ev (fun k => morphology_Erode.f k w h l 0 0) (w, h, l, 0) := by
    obtain ⟨L, hL, hE⟩ := erode_ok V hR0 hR0
    rw [z1, z2] at hL
    rwa [shows_eq hw1 hL me (fun x y _ _ _ _ => whole_none)] at hE
  have o2 : Ev (fun k => morphology_Dilate.f k w h l 0 0) (w, h, l, 0) := by
    obtain ⟨L, hL, hE⟩ := dilate_ok V hR0 hR0
    rw [z1, z2] at hL
    rwa [shows_eq hw1 hL me (fun x y _ _ _ _ => part_none)] at hE
  have o3 : Ev (fun k => morphology_Open.f k w h l 0 0) (w, h, l, 0) := by
    obtain ⟨L, hL, hE⟩ := open_ok V hR0 hR0
    rw [z1, z2] at hL
    rwa [shows_eq hw1 hL me (fun x y _ _ _ _ => part_none.trans whole_none)] at hE
  have o4 : Ev (fun k => morphology_Close.f k w h l 0 0) (w, h, l, 0) := by
    obtain ⟨L, hL, hE⟩ := close_ok V hR0 hR0
    rw [z1, z2] at hL
    rwa [shows_eq hw1 hL me (fun x y _ _ _ _ => whole_none.trans part_none)] at hE
  have o5 : Ev (fun k => morphology_Majority.f k w h l 0) (w, h, l, 0) := by
    obtain ⟨L, hL, hE⟩ := majority_shows V hR0
    have e : L = l := shows_eq hw1 hL me (fun x y _ _ _ _ => by
      have ha := around_part (D := pix false w h l) (r := 0) (s := 0) (x := x) (y := y) (by decide) (by decide)
      rw [part_none] at ha
      refine Iff.trans ?_ ha
      omega)
    rwa [e] at hE
  have oo : Ev (fun k => barscanlaw37_operations.f k w h l 0 0) [⟨w, h, l⟩, ⟨w, h, l⟩, ⟨w, h, l⟩, ⟨w, h, l⟩, ⟨w, h, l⟩] := by
    unfold barscanlaw37_operations.f
    exact Ev.bind o1 (Ev.bind o2 (Ev.bind o3 (Ev.bind o4 (Ev.bind o5 (Ev.now _)))))
  refine Ev.bind oo (alike_ok _ _ _ _ (by simp) (by omega) ?_)
  intro i hi0 hi
  have hi5 : i < 5 := hi
  obtain rfl | rfl | rfl | rfl | rfl : i = 0 ∨ i = 1 ∨ i = 2 ∨ i = 3 ∨ i = 4 := by omega
  all_goals rfl
end Go.Proofs.Ytkakiblnhgpdnaa.Pure
