/-
MorphologyDuality, over numbers and rows alone: the dilation of the inverted bitmap with a margin is the opposite of the erosion. Conditions: none.
-/
import Derived.Test.YtkakiblnhgpdnaaStmtMorphologyDuality
import Derived.Test.YtkakiblnhgpdnaaXSmall
namespace Go.Proofs.Ytkakiblnhgpdnaa.Pure
set_option linter.unusedVariables false
set_option linter.unusedSimpArgs false
open Go.RowKit Go.Proofs.Ytkakiblnhgpdnaa.PR Go.Proofs.YtkakiblnhgpdnaaW.PrintWords Go.Proofs.YtkakiblnhgpdnaaW.PrintLast Go.Proofs.YtkakiblnhgpdnaaW.PrintMore Go.Proofs.Ytkakiblnhgpdnaa.XWords Go.Proofs.Ytkakiblnhgpdnaa.XPure
theorem whole_min {w h r s : Int} {D : Int → Int → Prop} (hD : ∀ u v, D u v → 0 ≤ u ∧ u < w ∧ 0 ≤ v ∧ v < h) (hr : 0 ≤ r) (hs : 0 ≤ s) {x y : Int} (hx0 : 0 ≤ x) (hx : x < w) (hy0 : 0 ≤ y) (hy : y < h) : Whole (min r w) (min s h) D x y ↔ Whole r s D x y := by
  by_cases hc : r ≤ w ∧ s ≤ h
  · have e1 : min r w = r := by omega
    have e2 : min s h = s := by omega
    rw [e1, e2]
  · constructor
    · intro hh
      exfalso
      have h1 := hD _ _ (hh (x - min r w) y (by omega) (by omega) (by omega) (by omega))
      have h2 := hD _ _ (hh x (y - min s h) (by omega) (by omega) (by omega) (by omega))
      omega
    · intro hh u v a b c d
      exact hh u v (by omega) (by omega) (by omega) (by omega)
theorem mod21 {a : Int} (ha : (Lit.int .u8 a).wf = true) : wrap64 (Int.tmod a 21) = a % 21 ∧ 0 ≤ a % 21 ∧ a % 21 ≤ 20 := by
  have := wf_u8 ha
  rw [Int.tmod_eq_emod_of_nonneg this.1]
  have h1 := Int.emod_nonneg a (show (21 : Int) ≠ 0 by decide)
  have h2 := Int.emod_lt_of_pos a (show (0 : Int) < 21 by decide)
  exact ⟨w64 (by omega), h1, by omega⟩
theorem wide_area {w h x y : Int} (h1 : 1 ≤ w) (h2 : w ≤ 1000) (h3 : 1 ≤ h) (h4 : h ≤ 1000) (hx0 : 0 ≤ x) (hx : x ≤ 20) (hy0 : 0 ≤ y) (hy : y ≤ 20) : 1 ≤ (w + 2 * x) * (h + 2 * y) ∧ (w + 2 * x) * (h + 2 * y) ≤ 1081600 := by
  have a : 1 * 1 ≤ (w + 2 * x) * (h + 2 * y) := Int.mul_le_mul (by omega) (by omega) (by omega) (by omega)
  have b : (w + 2 * x) * (h + 2 * y) ≤ 1040 * 1040 := Int.mul_le_mul (by omega) (by omega) (by omega) (by omega)
  omega
theorem MorphologyDuality : barscanlaw37_MorphologyDuality.Pure := by
  intro w h l a1 a2 hw hh hl h1 h2
  refine Ev.rounds (g := fun k => barscanlaw37_MorphologyDuality.f k w h l a1 a2) ?_
  have he : Ev (fun k => (barscanlaw37_examples.f k).bind fun t => some t) true := Ev.bind examples_ok (Ev.now _)
  unfold barscanlaw37_MorphologyDuality.f
  obtain ⟨b, hb, hB⟩ := small_eq w h l
  rw [hb]
  simp only [Option.bind_some]
  by_cases ht : b = true
  case neg =>
    simp only [if_neg ht]
    exact he
  obtain ⟨V, B1, B2, B3⟩ := hB ht
  obtain ⟨G1, G2, G3, G4, G5⟩ := id V.1
  have hlen := V.2
  obtain ⟨e1, x0, x1⟩ := mod21 h1
  obtain ⟨e2, y0, y1⟩ := mod21 h2
  rw [e1, e2]
  generalize a1 % 21 = x at *
  generalize a2 % 21 = y at *
  simp only [if_pos ht]
  have ar := wide_area G1 B1 G3 B2 x0 x1 y0 y1
  rw [w64 (n := 2 * x) (by omega), w64 (n := 2 * y) (by omega), w64 (n := w + 2 * x) (by omega), w64 (n := h + 2 * y) (by omega), w64 (n := (w + 2 * x) * (h + 2 * y)) (by omega)]
  generalize hW : w + 2 * x = W at *
  generalize hH : h + 2 * y = H at *
  refine ev_loop (fun k i acc => barscanlaw37_MorphologyDuality.l0 k x y (W * H) i w h l W H acc) 0 (W * H) (by omega) (fun i acc => acc = upto W (fun u v => !pix false w h l (u - x) (v - y)) i.toNat) _ ?_ ?_ _ (by simp [upto_zero])
  · intro i acc hi0 hi hI K
    have m0 := Int.emod_nonneg i (show W ≠ 0 by omega)
    have m1 := Int.emod_lt_of_pos i (show 0 < W by omega)
    have m2 : 0 ≤ i / W := Int.ediv_nonneg hi0 (by omega)
    have m3 : i / W < H := div_lt (by omega) (by omega)
    have hacc : acc.length = i.toNat := by rw [hI, upto_length]
    have e : (i + 1).toNat = i.toNat + 1 := by omega
    have hnext : upto W (fun u v => !pix false w h l (u - x) (v - y)) (i + 1).toNat = acc ++ [(fun u v => !pix false w h l (u - x) (v - y)) (i % W) (i / W)] := by rw [e, upto_push (u := i % W) (v := i / W) m0 m1 (by rw [mod_div (by omega)]; omega), hI]
    refine Ev.step (f := fun k => barscanlaw37_MorphologyDuality.l0 k x y (W * H) (i + 1) w h l W H (acc ++ [!pix false w h l (i % W - x) (i / W - y)])) (fun k => ?_) (K _ hnext.symm)
    simp only [barscanlaw37_MorphologyDuality.l0]
    rw [if_pos hi, if_neg (by omega), Int.tmod_eq_emod_of_nonneg hi0, Int.tdiv_eq_ediv_of_nonneg hi0, w64 (n := i / W) (by omega), w64 (n := i % W - x) (by omega), w64 (n := i / W - y) (by omega), w64 (n := i + 1) (by omega), At_eq, if_pos V, Option.bind_some, if_pos (by omega)]
  · intro acc hI
    generalize hM : upto W (fun u v => !pix false w h l (u - x) (v - y)) (W * H).toNat = M at hI
    have hM2 : Shows W H M (fun u v => ¬ Dk w h l (u - x) (v - y)) := by
      rw [← hM]
      refine shows_upto (by omega) (by omega) (fun u v _ _ _ _ => ?_)
      unfold Dk
      cases pix false w h l (u - x) (v - y) <;> simp
    have VM : Valid W H M.length := ⟨⟨by omega, by omega, by omega, by omega, by omega⟩, hM2.len⟩
    have hX : Rad x := ⟨x0, by omega⟩
    have hY : Rad y := ⟨y0, by omega⟩
    obtain ⟨La, ha, hE⟩ := erode_ok V hX hY
    obtain ⟨Lb, hb, hF⟩ := dilate_ok VM hX hY
    have VB : Valid W H Lb.length := shows_valid VM hb
    rw [hI]
    refine Ev.step (f := fun k => (morphology_Erode.f k w h l x y).bind fun bt643 => ((morphology_Dilate.f k W H M x y).bind fun bt650 => (if bt643.2.2.2 = 0 then (if bt643.1 = w then (if bt643.2.1 = h then (if (bt643.2.2.1.length : Int) = (l.length : Int) then (if bt650.2.2.2 = 0 then (barscanlaw37_MorphologyDuality.l1 k x y bt643.2.2.1 (bt643.2.2.1.length : Int) 0 w h l bt650.1 bt650.2.1 bt650.2.2.1) else (if bt650.2.2.2 = 1 then (if W > 4096 then ((barscanlaw37_examples.f k).bind fun t657 => (some t657)) else (none)) else (none))) else (none)) else (none)) else (none)) else (none)))) (fun k => ?_) ?_
    · simp only [barscanlaw37_MorphologyDuality.l0]
      rw [if_neg (by omega)]
    refine Ev.bind hE (Ev.bind hF ?_)
    have hla := ha.len
    simp only [if_true, if_pos (show ((La.length : Nat) : Int) = (l.length : Int) by omega)]
    refine ev_loop (fun k i (_ : Unit) => barscanlaw37_MorphologyDuality.l1 k x y La La.length i w h l W H Lb) 0 La.length (by omega) (fun _ _ => True) _ ?_ ?_ () trivial
    · intro i s hi0 hi _ K
      have m0 := Int.emod_nonneg i (show w ≠ 0 by omega)
      have m1 := Int.emod_lt_of_pos i (show 0 < w by omega)
      have m2 : 0 ≤ i / w := Int.ediv_nonneg hi0 (by omega)
      have m3 : i / w < h := div_lt (by omega) (by omega)
      have hne : ¬ (pix false W H Lb (i % w + x) (i / w + y) == rdOf false La i) = true := by
        have hra : rdOf false La i = La.getD (i / w * w + i % w).toNat false := by rw [mod_div (by omega)]; rfl
        have h3 := ha.read _ _ m0 m1 m2 m3
        rw [← hra] at h3
        have h4 := (shows_dk hb (i % w + x) (i / w + y)).trans (and_iff_right (by omega))
        unfold Dk at h4
        rw [whole_min (fun u v hd => dk_in hd) x0 y0 m0 m1 m2 m3] at h3
        have e3 : min x W = x := by omega
        have e4 : min y H = y := by omega
        rw [e3, e4] at h4
        have h5 : Part x y (fun x_1 y_1 => pix false W H M x_1 y_1 = true) (i % w + x) (i / w + y) ↔ ¬ Whole x y (Dk w h l) (i % w) (i / w) := by
          constructor
          · rintro ⟨u, v, p1, p2, p3, p4, hp⟩ hh
            have hp2 := ((shows_dk hM2 u v).1 hp).2
            exact hp2 (hh (u - x) (v - y) (by omega) (by omega) (by omega) (by omega))
          · intro hn
            refine Classical.byContradiction fun hc => hn fun u v p1 p2 p3 p4 => Classical.byContradiction fun hd => hc ?_
            refine ⟨u + x, v + y, by omega, by omega, by omega, by omega, (shows_dk hM2 (u + x) (v + y)).2 ⟨by omega, ?_⟩⟩
            have e5 : u + x - x = u := by omega
            have e6 : v + y - y = v := by omega
            show ¬ Dk w h l (u + x - x) (v + y - y)
            rw [e5, e6]
            exact hd
        have h6 := h4.trans h5
        intro hh
        rw [beq_iff_eq] at hh
        rw [hh] at h6
        by_cases hc : Whole x y (Dk w h l) (i % w) (i / w)
        · exact h6.1 (h3.2 hc) hc
        · exact hc (h3.1 (h6.2 hc))
      refine Ev.step (f := fun k => barscanlaw37_MorphologyDuality.l1 k x y La La.length (i + 1) w h l W H Lb) (fun k => ?_) (K () trivial)
      simp only [barscanlaw37_MorphologyDuality.l1]
      rw [if_pos hi, if_pos hi0, if_pos hi, if_neg (by omega), Int.tmod_eq_emod_of_nonneg hi0, Int.tdiv_eq_ediv_of_nonneg hi0, w64 (n := i / w) (by omega), w64 (n := i % w + x) (by omega), w64 (n := i / w + y) (by omega), w64 (n := i + 1) (by omega), At_eq, if_pos VB, Option.bind_some, if_neg hne]
    · intro s _
      refine Ev.step (f := fun k => (barscanlaw37_examples.f k).bind fun t660 => some t660) (fun k => ?_) he
      simp only [barscanlaw37_MorphologyDuality.l1]
      rw [if_neg (by omega)]
end Go.Proofs.Ytkakiblnhgpdnaa.Pure
