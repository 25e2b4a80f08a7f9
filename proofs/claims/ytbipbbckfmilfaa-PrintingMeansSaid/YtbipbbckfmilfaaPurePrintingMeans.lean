/-
PrintingMeans, over numbers and rows alone. Conditions: the values fit their kinds.
-/
import Derived.Test.YtbipbbckfmilfaaStmtPrintingMeans
import Derived.Test.YtbipbbckfmilfaaXMeansM
import Derived.Test.YtbipbbckfmilfaaXTurnGrayM
import Derived.Test.YtbipbbckfmilfaaXPlaces
import Derived.Test.YtbipbbckfmilfaaPRx6
namespace Go.Proofs.Ytbipbbckfmilfaa.Pure
set_option linter.unusedVariables false
set_option linter.unusedSimpArgs false
open Go.RowKit Go.Proofs.Ytbipbbckfmilfaa.PR Go.Proofs.YtbipbbckfmilfaaW.PrintWords Go.Proofs.YtbipbbckfmilfaaW.PrintLast Go.Proofs.YtbipbbckfmilfaaW.PrintMore Go.Proofs.Ytbipbbckfmilfaa.XWords Go.Proofs.Ytbipbbckfmilfaa.XPure
theorem valid1000_eq (w h : Int) (l : List Bool) : barscanlaw43_valid.f w h l 1000 = some (decide (1 ≤ w ∧ w ≤ 1000 ∧ 1 ≤ h ∧ h ≤ 1000 ∧ w * h ≤ 1000 ∧ (l.length : Int) = w * h)) := by
  have e : mn 1000 4096 = 1000 := by decide
  unfold barscanlaw43_valid.f
  rw [e]
  by_cases h1 : w ≥ 1
  · by_cases h2 : w ≤ 1000
    · by_cases h3 : h ≥ 1
      · by_cases h4 : h ≤ 1000
        · have h1' : 1 ≤ w := h1
          have h3' : 1 ≤ h := h3
          rw [if_pos h1, if_pos h2, if_pos h3, if_pos h4, w64_mul h1 (by omega) h3 (by omega)]
          by_cases h5 : w * h ≤ 1000
          · rw [if_pos h5]
            simp only [h1', h2, h3', h4, h5, true_and]
            rfl
          · rw [if_neg h5]
            simp [h5]
        · simp [h1, h2, h3, h4]
      · simp [h1, h2, h3]
    · simp [h1, h2]
  · simp [h1]
/-- A print without blur and dirt is the gray table of the turned one. -/
theorem print_plain {w h : Int} {l : List Bool} (V : Valid w h l.length) (t : Int) : ∃ y : Int × Int × (Int → Int → Bool), Fits y.1 y.2.1 ∧ Ev (fun k => printing_Print.f k w h l t 0 0 0) (y.1, y.2.1, tab (gr y), 0) ∧ Ev (fun k => raster_Turn.f k w h l t) (y.1, y.2.1, tab y, 0) ∧ Ev (fun k => raster_Gray.f k y.1 y.2.1 (tab y)) (y.1, y.2.1, tab (gr y), 0) := by
  obtain ⟨F, hl⟩ := id V
  have hx := tab_of false V
  generalize (fun u v => l.getD (v * w + u).toNat false) = g at hx
  have Fx : Fits ((w, h, g) : (Int × Int × (Int → Int → Bool))).1 ((w, h, g) : (Int × Int × (Int → Int → Bool))).2.1 := F
  have T := turn_ok Fx t
  have Fy := rotN_fits (t % 4).toNat (w, h, g) Fx
  have hG := gray_ok V
  have e1 : l.map grayOf = tab (gr (w, h, g)) := by rw [tab_gr, ← hx]
  have TI := turnImage_ok (x := gr (w, h, g)) Fx t
  rw [rotN_gr] at TI
  have T' : Ev (fun k => raster_Turn.f k w h l t) ((rotN (t % 4).toNat (w, h, g)).1, (rotN (t % 4).toNat (w, h, g)).2.1, tab (rotN (t % 4).toNat (w, h, g)), 0) := by
    rw [hx]
    exact T
  have hG' : Ev (fun k => raster_Gray.f k w h l) (w, h, tab (gr (w, h, g)), 0) := by rw [← e1]; exact hG
  generalize rotN (t % 4).toNat (w, h, g) = y at T' Fy TI
  have Vy := tab_valid Fy
  have Ry := gray_ok Vy
  have hGy : (tab y).map grayOf = tab (gr y) := (tab_gr y).symm
  rw [hGy] at Ry
  have hrng : ∀ z ∈ tab (gr y), 0 ≤ z ∧ z ≤ 255 := by rw [← hGy]; exact gray_range _
  have Vg : Valid y.1 y.2.1 (tab (gr y)).length := tab_valid (x := gr y) Fy
  have B1 := blur_ok (r := 0) Vg hrng (by omega) (by omega)
  rw [mean_zero Vg hrng] at B1
  have hp := Fy.pos
  have h5 := Fy.2.2.2.2
  refine ⟨y, Fy, ?_, T', Ry⟩
  unfold printing_Print.f
  rw [check_eq, if_pos V]
  have c4 : ¬ (0 : Int) > mn (l.length : Int) 65536 := by
    unfold mn
    split <;> omega
  simp only [Option.bind_some, if_true, if_neg (show ¬ (0 : Int) < 0 by decide), if_neg (show ¬ (0 : Int) > 64 by decide), if_neg c4]
  refine Ev.bind hG' ?_
  refine Ev.bind (a := (y.1, y.2.1, tab (gr y))) ?_ ?_
  · unfold printing_degradations_1.f
    exact Ev.bind TI (Ev.now _)
  refine Ev.bind (a := (y.1, y.2.1, tab (gr y))) ?_ ?_
  · unfold printing_degradations_2.f
    exact Ev.bind B1 (Ev.now _)
  refine Ev.bind (a := (y.1, y.2.1, tab (gr y))) ?_ (Ev.now _)
  unfold printing_degradations_3.f slices_Clone_uint8_uint8.f
  have hgl := Vg.2
  simp only [if_pos (show (tab (gr y)).length < 140737488355328 by omega), Option.bind_some, hgl]
  have P := places_ok (size := y.1 * y.2.1) (n := 0) (a := 0) (by omega) (by omega) (by omega) (by omega)
  refine Ev.bind P ?_
  have e0 : placesOf (y.1 * y.2.1) (0 : Int).toNat 0 = [] := rfl
  rw [e0]
  refine ev_end (fun k => ?_)
  simp only [printing_degradations_3.l0, List.length_nil]
  rw [if_neg (by omega)]

/-- The loops over the box of one pixel. -/
theorem means_pixel {w h r : Int} {g B : List Int} {l : List Bool} (V : Valid w h g.length) (hx : ∀ x ∈ g, 0 ≤ x ∧ x ≤ 255) (hr0 : 0 ≤ r) (hr : r ≤ 7) (hw : w ≤ 1000) (hh : h ≤ 1000) {i : Int} (hi0 : 0 ≤ i) (hil : i < w * h) {hi0' : Int} (hlast : hi0' = 255 ∨ (hi0' = 0 ∧ r ≤ i % w ∧ r ≤ i / w ∧ i % w + r < w ∧ i / w + r < h))
    (N : Int) {R : Bool} (K : Ev (fun k => barscanlaw43_PrintingMeans.l0 k r B N (i + 1) w h l w h g) R) :
    Ev (fun k => barscanlaw43_PrintingMeans.l1 k r (meanOf w h g r (i % w) (i / w)) (i % w) (i / w) 255 hi0' (mx 0 (i / w - r)) B N i w h l w h g) R := by
  obtain ⟨G1, G2, G3, G4, G5⟩ := id V.1
  have hl := V.2
  have x0 := Int.emod_nonneg i (show w ≠ 0 by omega)
  have x1 := Int.emod_lt_of_pos i (show 0 < w by omega)
  have y0 := Int.ediv_nonneg hi0 (show 0 ≤ w by omega)
  have y1 : i / w < h := div_lt (by omega) hil
  generalize i % w = x at x0 x1 hlast ⊢
  generalize i / w = y at y0 y1 hlast ⊢
  have eD : mn (wrap64 (h - 1)) (wrap64 (y + r)) = mn (h - 1) (y + r) := by rw [w64 (n := h - 1) (by omega), w64 (n := y + r) (by omega)]
  have eC : mn (wrap64 (w - 1)) (wrap64 (x + r)) = mn (w - 1) (x + r) := by rw [w64 (n := w - 1) (by omega), w64 (n := x + r) (by omega)]
  have hD0 : 0 ≤ mn (h - 1) (y + r) := by unfold mn; split <;> omega
  have hD1 : mn (h - 1) (y + r) ≤ h - 1 ∧ mn (h - 1) (y + r) ≤ y + r := by unfold mn; split <;> omega
  have hC1 : mn (w - 1) (x + r) ≤ w - 1 ∧ mn (w - 1) (x + r) ≤ x + r := by unfold mn; split <;> omega
  have hA : 0 ≤ mx 0 (y - r) ∧ y - r ≤ mx 0 (y - r) ∧ mx 0 (y - r) ≤ y := by unfold mx; split <;> omega
  have hE : 0 ≤ mx 0 (x - r) ∧ x - r ≤ mx 0 (x - r) ∧ mx 0 (x - r) ≤ x := by unfold mx; split <;> omega
  have hAD : mx 0 (y - r) ≤ mn (h - 1) (y + r) + 1 := by unfold mn; split <;> omega
  have hEC : mx 0 (x - r) ≤ mn (w - 1) (x + r) + 1 := by unfold mn; split <;> omega
  have hDy : ∀ j, j ≤ h - 1 → j ≤ y + r → j ≤ mn (h - 1) (y + r) := fun j h1 h2 => by unfold mn; split <;> omega
  have hCx : ∀ c, c ≤ w - 1 → c ≤ x + r → c ≤ mn (w - 1) (x + r) := fun j h1 h2 => by unfold mn; split <;> omega
  have hAy : ∀ j, 0 ≤ j → y - r ≤ j → mx 0 (y - r) ≤ j := fun j h1 h2 => by unfold mx; split <;> omega
  have hEx : ∀ j, 0 ≤ j → x - r ≤ j → mx 0 (x - r) ≤ j := fun j h1 h2 => by unfold mx; split <;> omega
  have hsr := fun c j => shade_range (w := w) (h := h) hx c j
  refine ev_loop (fun k d (s : Int × Int) => barscanlaw43_PrintingMeans.l1 k r (meanOf w h g r x y) x y s.1 s.2 d B N i w h l w h g) (mx 0 (y - r)) (mn (h - 1) (y + r) + 1) hAD
    (fun d s => (0 ≤ s.1 ∧ s.1 ≤ 255 ∧ hi0' ≤ s.2 ∧ s.2 ≤ 255) ∧ ∀ j c, mx 0 (y - r) ≤ j → j < d → mx 0 (x - r) ≤ c → c ≤ mn (w - 1) (x + r) → s.1 ≤ shade w h g c j ∧ shade w h g c j ≤ s.2) _ ?_ ?_ (255, hi0') ⟨⟨show (0 : Int) ≤ 255 by decide, show (255 : Int) ≤ 255 by decide, Int.le_refl _, by rcases hlast with h | ⟨h, _⟩ <;> omega⟩, fun j c h1 h2 => by omega⟩
  · rintro d ⟨lo, hi⟩ hd0 hd1 ⟨⟨s1, s2, s3, s4⟩, hI⟩ K2
    refine Ev.step (f := fun k => barscanlaw43_PrintingMeans.l2 k r (meanOf w h g r x y) x y lo hi d (mx 0 (x - r)) B N i w h l w h g) (fun k => ?_) ?_
    · simp only [barscanlaw43_PrintingMeans.l1]
      rw [eD, if_pos (by omega), w64 (n := x - r) (by omega)]
    refine ev_loop (fun k c (s : Int × Int) => barscanlaw43_PrintingMeans.l2 k r (meanOf w h g r x y) x y s.1 s.2 d c B N i w h l w h g) (mx 0 (x - r)) (mn (w - 1) (x + r) + 1) hEC
      (fun c0 s => (0 ≤ s.1 ∧ s.1 ≤ 255 ∧ hi0' ≤ s.2 ∧ s.2 ≤ 255) ∧ ∀ j c, mx 0 (y - r) ≤ j → mx 0 (x - r) ≤ c → c ≤ mn (w - 1) (x + r) → (j < d ∨ (j = d ∧ c < c0)) → s.1 ≤ shade w h g c j ∧ shade w h g c j ≤ s.2) _ ?_ ?_ (lo, hi) ⟨⟨s1, s2, s3, s4⟩, fun j c h1 h2 h3 h4 => by
        rcases h4 with h4 | ⟨h4, h5⟩
        · exact hI j c h1 h4 h2 h3
        · omega⟩
    · rintro c ⟨lo, hi⟩ hc0 hc1 ⟨⟨s1, s2, s3, s4⟩, hJ⟩ K3
      have hcw : c < w := by omega
      have hc : 0 ≤ c := by omega
      have hd : 0 ≤ d := by omega
      have hdh : d < h := by omega
      obtain ⟨z1, z2, z3, z4, z5, _⟩ := V.spot hc hcw hd hdh
      have erd : rd g (d * w + c) = shade w h g c d := shade_rd V hc hcw hd hdh
      have hs := hsr c d
      refine Ev.step (f := fun k => barscanlaw43_PrintingMeans.l2 k r (meanOf w h g r x y) x y (mn lo (shade w h g c d)) (mx hi (shade w h g c d)) d (c + 1) B N i w h l w h g) (fun k => ?_) (K3 (mn lo (shade w h g c d), mx hi (shade w h g c d)) ?_)
      · simp only [barscanlaw43_PrintingMeans.l2]
        rw [eC, if_pos (by omega), z1, z2, if_pos z4, if_pos z5, erd, w64 (n := c + 1) (by omega)]
      · have m1 : mn lo (shade w h g c d) ≤ lo ∧ mn lo (shade w h g c d) ≤ shade w h g c d ∧ 0 ≤ mn lo (shade w h g c d) := by unfold mn; split <;> omega
        have m2 : hi ≤ mx hi (shade w h g c d) ∧ shade w h g c d ≤ mx hi (shade w h g c d) ∧ mx hi (shade w h g c d) ≤ 255 := by unfold mx; split <;> omega
        refine ⟨⟨m1.2.2, by simp only; omega, by simp only; omega, m2.2.2⟩, fun j c' h1 h2 h3 h4 => ?_⟩
        by_cases hnew : j = d ∧ c' = c
        · obtain ⟨rfl, rfl⟩ := hnew
          exact ⟨m1.2.1, m2.2.1⟩
        · have := hJ j c' h1 h2 h3 (by omega)
          simp only
          omega
    · rintro ⟨lo, hi⟩ ⟨⟨s1, s2, s3, s4⟩, hJ⟩
      refine Ev.step (f := fun k => barscanlaw43_PrintingMeans.l1 k r (meanOf w h g r x y) x y lo hi (d + 1) B N i w h l w h g) (fun k => ?_) (K2 (lo, hi) ⟨⟨s1, s2, s3, s4⟩, fun j c h1 h2 h3 h4 => hJ j c h1 h3 h4 (by omega)⟩)
      simp only [barscanlaw43_PrintingMeans.l2]
      rw [eC, if_neg (by omega), w64 (n := d + 1) (by omega)]
  · rintro ⟨lo, hi⟩ ⟨⟨s1, s2, s3, s4⟩, hI⟩
    have hm := mean_between (w := w) (h := h) (l := g) (r := r) (u := x) (v := y) (lo := lo) (hi := hi) hr0 (by omega) s1 s4 (fun c j h1 h2 h3 h4 => by
      by_cases hin : 0 ≤ c ∧ c < w ∧ 0 ≤ j ∧ j < h
      · have := hDy j (by omega) (by omega)
        exact hI j c (hAy j hin.2.2.1 (by omega)) (by omega) (hEx c hin.1 (by omega)) (hCx c (by omega) (by omega))
      · have e : shade w h g c j = 255 := pix_out hin
        rw [e]
        refine ⟨s2, ?_⟩
        rcases hlast with h | ⟨_, q1, q2, q3, q4⟩
        · omega
        · exact absurd ⟨by omega, by omega, by omega, by omega⟩ hin)
    refine Ev.step (f := fun k => barscanlaw43_PrintingMeans.l0 k r B N (i + 1) w h l w h g) (fun k => ?_) K
    simp only [barscanlaw43_PrintingMeans.l1]
    have := div_lt (w := w) (h := h) (i := i) (by omega) hil
    rw [eD, if_neg (by omega), if_neg (by omega), if_neg (by omega), w64 (n := i + 1) (by
      have : w * h ≤ 16777216 := by omega
      omega)]
theorem PrintingMeans : barscanlaw43_PrintingMeans.Pure := by
  intro w h l p rad t _ _ _ _ hp hrad _
  refine Ev.rounds (g := fun k => barscanlaw43_PrintingMeans.f k w h l p rad t) ?_
  have he : Ev (fun k => (barscanlaw43_examples.f k).bind fun t => some t) true := Ev.bind examples_ok (Ev.now _)
  have hr := wf_u8 hrad
  have er : wrap64 (Int.tmod rad 8) = rad % 8 := by
    rw [Int.tmod_eq_emod_of_nonneg hr.1]
    exact w64 (by omega)
  unfold barscanlaw43_PrintingMeans.f
  rw [valid1000_eq]
  by_cases VS : 1 ≤ w ∧ w ≤ 1000 ∧ 1 ≤ h ∧ h ≤ 1000 ∧ w * h ≤ 1000 ∧ (l.length : Int) = w * h
  case neg =>
    rw [decide_eq_false VS]
    simp only [Option.bind_some, Bool.false_eq_true, if_false]
    exact he
  rw [decide_eq_true VS]
  obtain ⟨v1, v2, v3, v4, v5, v6⟩ := VS
  simp only [Option.bind_some, if_true, er]
  have r0 : 0 ≤ rad % 8 := by omega
  have r7 : rad % 8 ≤ 7 := by omega
  generalize rad % 8 = r at r0 r7
  by_cases c : (p.length : Int) < (l.length : Int)
  · simp only [if_pos c]
    exact he
  simp only [if_neg c, if_pos (show (0 : Int) ≤ (l.length : Int) by omega), if_pos (show (l.length : Int) ≤ (p.length : Int) by omega)]
  have V : Valid w h l.length := ⟨⟨v1, by omega, v3, by omega, by omega⟩, v6⟩
  have hg : (p.take ((l.length : Int)).toNat).length = l.length := by rw [List.length_take]; omega
  have hx : ∀ z ∈ p.take ((l.length : Int)).toNat, 0 ≤ z ∧ z ≤ 255 := fun z hz => wf_u8 (hp z (List.mem_of_mem_take hz))
  generalize p.take ((l.length : Int)).toNat = g at hg hx ⊢
  have Vg : Valid w h g.length := by rw [hg]; exact V
  have hgl : (g.length : Int) = w * h := Vg.2
  have B0 := blur_ok (r := 0) Vg hx (by omega) (by omega)
  rw [mean_zero Vg hx] at B0
  have BR := blur_ok (r := r) Vg hx r0 (by omega)
  obtain ⟨y, Fy, P1, P2, P3⟩ := print_plain V t
  refine Ev.bind B0 ?_
  refine Ev.bind BR ?_
  refine Ev.bind P1 ?_
  refine Ev.bind P2 ?_
  refine Ev.bind P3 ?_
  simp only [if_true]
  refine Ev.bind (equal43_self (by omega)) ?_
  simp only [if_true]
  refine Ev.bind (equal43_self (tab_small (x := gr y) Fy)) ?_
  have hBl : (upto w (meanOf w h g r) (w * h).toNat).length = g.length := by rw [upto_length]; omega
  simp only [if_true, hBl]
  have hB : ∀ i : Int, 0 ≤ i → i < w * h → rd (upto w (meanOf w h g r) (w * h).toNat) i = meanOf w h g r (i % w) (i / w) := by
    intro i hi0 hil
    have := upto_getD (w := w) (g := meanOf w h g r) (n := (w * h).toNat) (d := 0) (Int.emod_nonneg i (show w ≠ 0 by omega)) (Int.emod_lt_of_pos i (show 0 < w by omega)) (Int.ediv_nonneg hi0 (show 0 ≤ w by omega)) (by rw [mod_div (by omega)]; omega)
    rw [mod_div (by omega)] at this
    exact this
  generalize upto w (meanOf w h g r) (w * h).toNat = B at hB hBl
  refine ev_loop (fun k i (_ : Unit) => barscanlaw43_PrintingMeans.l0 k r B (g.length : Int) i w h l w h g) 0 (g.length : Int) (by omega) (fun _ _ => True) true ?_ ?_ () trivial
  · intro i u hi0 hil _ K
    have K1 := K () trivial
    have hil2 : i < w * h := by omega
    have x0 := Int.emod_nonneg i (show w ≠ 0 by omega)
    have x1 := Int.emod_lt_of_pos i (show 0 < w by omega)
    have y0 := Int.ediv_nonneg hi0 (show 0 ≤ w by omega)
    have y1 : i / w < h := div_lt (by omega) hil2
    have em : Int.tmod i w = i % w := Int.tmod_eq_emod_of_nonneg hi0
    have ed : wrap64 (Int.tdiv i w) = i / w := by rw [Int.tdiv_eq_ediv_of_nonneg hi0]; exact w64 (by omega)
    have e1 : wrap64 (i / w - r) = i / w - r := w64 (by omega)
    have e2 : wrap64 (i % w + r) = i % w + r := w64 (by omega)
    have e3 : wrap64 (i / w + r) = i / w + r := w64 (by omega)
    have L255 := means_pixel (B := B) (l := l) Vg hx r0 r7 v2 v4 hi0 hil2 (hi0' := 255) (.inl rfl) (g.length : Int) K1
    have J : ∀ z, Ev (fun k => barscanlaw43_PrintingMeans.l1 k r (meanOf w h g r (i % w) (i / w)) (i % w) (i / w) 255 z (mx 0 (i / w - r)) B (g.length : Int) i w h l w h g) true → Ev (fun k => barscanlaw43_PrintingMeans.j3 k r (meanOf w h g r (i % w) (i / w)) (i % w) (i / w) 255 z B (g.length : Int) i w h l w h g) true := fun z hz =>
      Ev.step (f := fun k => barscanlaw43_PrintingMeans.l1 k r (meanOf w h g r (i % w) (i / w)) (i % w) (i / w) 255 z (mx 0 (i / w - r)) B (g.length : Int) i w h l w h g) (fun k => by simp only [barscanlaw43_PrintingMeans.j3]; rw [e1]) hz
    by_cases c1 : i % w < r
    · refine Ev.step (f := fun k => barscanlaw43_PrintingMeans.l1 k r (meanOf w h g r (i % w) (i / w)) (i % w) (i / w) 255 255 (mx 0 (i / w - r)) B (g.length : Int) i w h l w h g) (fun k => ?_) L255
      simp only [barscanlaw43_PrintingMeans.l0, hBl]
      rw [if_pos hil, if_pos hi0, if_pos hil, if_neg (by omega), em, ed, if_pos c1, e1, hB i hi0 hil2]
    by_cases c2 : i / w < r
    · refine Ev.step (f := fun k => barscanlaw43_PrintingMeans.l1 k r (meanOf w h g r (i % w) (i / w)) (i % w) (i / w) 255 255 (mx 0 (i / w - r)) B (g.length : Int) i w h l w h g) (fun k => ?_) L255
      simp only [barscanlaw43_PrintingMeans.l0, hBl]
      rw [if_pos hil, if_pos hi0, if_pos hil, if_neg (by omega), em, ed, if_neg c1, if_pos c2, e1, hB i hi0 hil2]
    by_cases c3 : i % w + r ≥ w
    · refine Ev.step (f := fun k => barscanlaw43_PrintingMeans.l1 k r (meanOf w h g r (i % w) (i / w)) (i % w) (i / w) 255 255 (mx 0 (i / w - r)) B (g.length : Int) i w h l w h g) (fun k => ?_) L255
      simp only [barscanlaw43_PrintingMeans.l0, hBl]
      rw [if_pos hil, if_pos hi0, if_pos hil, if_neg (by omega), em, ed, if_neg c1, if_neg c2, e2, if_pos c3, e1, hB i hi0 hil2]
    by_cases c4 : i / w + r ≥ h
    · refine Ev.step (f := fun k => barscanlaw43_PrintingMeans.j3 k r (meanOf w h g r (i % w) (i / w)) (i % w) (i / w) 255 255 B (g.length : Int) i w h l w h g) (fun k => ?_) (J 255 L255)
      simp only [barscanlaw43_PrintingMeans.l0, hBl]
      rw [if_pos hil, if_pos hi0, if_pos hil, if_neg (by omega), em, ed, if_neg c1, if_neg c2, e2, if_neg c3, e3, if_pos c4, hB i hi0 hil2]
    · have L0 := means_pixel (B := B) (l := l) Vg hx r0 r7 v2 v4 hi0 hil2 (hi0' := 0) (.inr ⟨rfl, by omega, by omega, by omega, by omega⟩) (g.length : Int) K1
      refine Ev.step (f := fun k => barscanlaw43_PrintingMeans.j3 k r (meanOf w h g r (i % w) (i / w)) (i % w) (i / w) 255 0 B (g.length : Int) i w h l w h g) (fun k => ?_) (J 0 L0)
      simp only [barscanlaw43_PrintingMeans.l0, hBl]
      rw [if_pos hil, if_pos hi0, if_pos hil, if_neg (by omega), em, ed, if_neg c1, if_neg c2, e2, if_neg c3, e3, if_neg c4, hB i hi0 hil2]
  · intro u _
    refine Ev.step (f := fun k => (barscanlaw43_examples.f k).bind fun t330 => (some t330)) (fun k => ?_) he
    simp only [barscanlaw43_PrintingMeans.l0]
    rw [if_neg (by omega)]
end Go.Proofs.Ytbipbbckfmilfaa.Pure
