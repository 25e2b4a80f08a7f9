/-
Blur answers the table of the rounded means. Conditions: as each theorem says.
-/
import Derived.Test.YtbipbbckfmilfaaXSums
import Derived.Test.YtbipbbckfmilfaaPRx4
namespace Go.Proofs.Ytbipbbckfmilfaa.Pure
set_option linter.unusedVariables false
set_option linter.unusedSimpArgs false
open Go.RowKit Go.Proofs.Ytbipbbckfmilfaa.PR Go.Proofs.YtbipbbckfmilfaaW.PrintWords Go.Proofs.YtbipbbckfmilfaaW.PrintLast Go.Proofs.YtbipbbckfmilfaaW.PrintMore Go.Proofs.Ytbipbbckfmilfaa.XWords Go.Proofs.Ytbipbbckfmilfaa.XPure

/-- A pixel of an image; white outside. -/
def shade (w h : Int) (l : List Int) (x y : Int) : Int := pix 255 w h l x y
/-- The sum of the box of n by n pixels from a place on. -/
def boxSum (w h : Int) (l : List Int) (n : Nat) (x y : Int) : Int := acc (fun j => acc (fun i => shade w h l i j) x n) y n
/-- The rounded mean around a pixel. -/
def meanOf (w h : Int) (l : List Int) (r u v : Int) : Int := ((2 * boxSum w h l (2 * r + 1).toNat (u - r) (v - r) + (2 * r + 1) * (2 * r + 1)) / (2 * (2 * r + 1) * (2 * r + 1))) % 256

theorem shade_range {w h : Int} {l : List Int} (hx : ∀ x ∈ l, 0 ≤ x ∧ x ≤ 255) (x y : Int) : 0 ≤ shade w h l x y ∧ shade w h l x y ≤ 255 := by
  unfold shade pix
  split
  · rw [List.getD_eq_getElem?_getD]
    cases hg : l[(y * w + x).toNat]? with
    | none => simp
    | some a =>
      rw [Option.getD_some]
      exact hx a (List.mem_of_getElem? hg)
  · omega
theorem shade_rd {w h : Int} {l : List Int} (V : Valid w h l.length) {x y : Int} (h1 : 0 ≤ x) (h2 : x < w) (h3 : 0 ≤ y) (h4 : y < h) : rd l (y * w + x) = shade w h l x y := by
  have hp := row_nonneg (w := w) (u := x) (v := y) (by omega) h1 h3
  have hl := row_lt (w := w) (h := h) (u := x) (v := y) h2 h1 h4 h3
  have := V.2
  rw [shade, pix_in h1 h2 h3 h4, rd, List.getD_eq_getElem?_getD, List.getD_eq_getElem?_getD, List.getElem?_eq_getElem (show (y * w + x).toNat < l.length by omega)]
  rfl
theorem row_getD_copy {w h : Int} {s t : List Int} (hs : (s.length : Int) = w * h) {y : Int} (hy0 : 0 ≤ y) (hy : y < h) (hw : 1 ≤ w) (ht : (t.length : Int) = w) :
    (copyIn s (y * w).toNat (s.length - (y * w).toNat) t).length = s.length ∧
    ∀ u v, 0 ≤ u → u < w → 0 ≤ v → v < h → (copyIn s (y * w).toNat (s.length - (y * w).toNat) t).getD (v * w + u).toNat 0 = if v = y then t.getD u.toNat 0 else s.getD (v * w + u).toNat 0 := by
  have h1 := row_lt (w := w) (h := h) (u := w - 1) (v := y) (by omega) (by omega) hy hy0
  have h2 : 0 ≤ y * w := Int.mul_nonneg hy0 (by omega)
  refine ⟨copyIn_length _ _ _ _ (by omega), fun u v hu0 hu hv0 hv => ?_⟩
  unfold copyIn
  have h3 := row_nonneg (w := w) (u := u) (v := v) (by omega) hu0 hv0
  have htl : (t.take (s.length - (y * w).toNat)).length = t.length := by rw [List.length_take]; omega
  have hte : t.take (s.length - (y * w).toNat) = t := List.take_of_length_le (by omega)
  rw [hte, getD_splice _ _ _ _ (by omega)]
  by_cases he : v = y
  · subst he
    rw [if_pos (by omega), if_pos rfl]
    congr 1
    omega
  · rw [if_neg he, if_neg]
    rintro ⟨a, b⟩
    apply he
    have c1 : y * w ≤ v * w + u := by omega
    have c2 : v * w + u < y * w + w := by omega
    have d1 : (v * w + u) / w = v := row_div hu0 hu
    have e : v * w + u = y * w + (v * w + u - y * w) := by omega
    have d2 : (y * w + (v * w + u - y * w)) / w = y := row_div (by omega) (by omega)
    rw [← e, d1] at d2
    exact d2

theorem blur_ok {w h : Int} {l : List Int} {r : Int} (V : Valid w h l.length) (hx : ∀ x ∈ l, 0 ≤ x ∧ x ≤ 255) (hr0 : 0 ≤ r) (hr : r ≤ 64) :
    Ev (fun k => printing_Blur.f k w h l r) (w, h, upto w (meanOf w h l r) (w * h).toNat, 0) := by
  obtain ⟨G1, G2, G3, G4, G5⟩ := id V.1
  have hp := V.1.pos
  have hl := V.2
  unfold printing_Blur.f
  rw [checkImage_eq, if_pos V]
  simp only [Option.bind_some, if_true, if_neg (show ¬ r < 0 by omega), if_neg (show ¬ r > 64 by omega), if_pos (show (0 : Int) ≤ (l.length : Int) by omega), if_pos (show ((l.length : Int)).toNat ≤ 35184372088832 by omega)]
  rw [w64 (n := 2 * r) (by omega), w64 (n := 2 * r + 1) (by omega)]
  have hNi : (((2 * r + 1).toNat : Nat) : Int) = 2 * r + 1 := by omega
  have hq0 : 0 ≤ (2 * r + 1) * (2 * r + 1) := Int.mul_nonneg (by omega) (by omega)
  have hq1 : (2 * r + 1) * (2 * r + 1) ≤ 129 * 129 := Int.mul_le_mul (by omega) (by omega) (by omega) (by omega)
  have hqp : 1 * 1 ≤ (2 * r + 1) * (2 * r + 1) := Int.mul_le_mul (by omega) (by omega) (by omega) (by omega)
  have hq2 : 2 * (2 * r + 1) * (2 * r + 1) = 2 * ((2 * r + 1) * (2 * r + 1)) := Int.mul_assoc _ _ _
  -- the row sums
  let R : Int → Int → Int := fun u v => acc (fun i => shade w h l i v) (u - r) (2 * r + 1).toNat
  have hR : ∀ u v, 0 ≤ R u v ∧ R u v ≤ 255 * 129 := fun u v => by
    have := acc_bound (a := u - r) (fun i => shade_range (w := w) (h := h) hx i v) (2 * r + 1).toNat
    have e : R u v = acc (fun i => shade w h l i v) (u - r) (2 * r + 1).toNat := rfl
    rw [e]
    have h2 : (255 : Int) * ((2 * r + 1).toNat : Nat) ≤ 255 * 129 := by omega
    have h3 : (0 : Int) * ((2 * r + 1).toNat : Nat) = 0 := Int.zero_mul _
    omega
  let I : Int → List Int → Prop := fun y s => (s.length : Int) = w * h ∧ ∀ u v, 0 ≤ u → u < w → 0 ≤ v → v < h → v < y → s.getD (v * w + u).toNat 0 = R u v
  refine ev_loop (fun k y s => printing_Blur.l0 k r (2 * r + 1) s h y w h l) 0 h (by omega) I _ ?_ ?_ _ ⟨by simp; omega, fun u v _ _ _ _ _ => by omega⟩
  · intro y s hy0 hy hI K
    have hyw0 : 0 ≤ y * w := Int.mul_nonneg hy0 (by omega)
    have hyw := row_lt (w := w) (h := h) (u := w - 1) (v := y) (by omega) (by omega) hy hy0
    refine Ev.step (f := fun k => printing_Blur.l1 k r (2 * r + 1) s y (List.replicate w.toNat 0) h y w 0 w h l) (fun k => ?_) ?_
    · simp only [printing_Blur.l0]
      rw [if_pos hy, if_pos (by omega), if_pos (by omega)]
      simp only [Option.bind_some, List.length_replicate, Int.toNat_of_nonneg (show 0 ≤ w by omega)]
    refine ev_loop (fun k x row => printing_Blur.l1 k r (2 * r + 1) s y row h y w x w h l) 0 w (by omega) (fun x row => (row.length : Int) = w ∧ ∀ u, 0 ≤ u → u < x → row.getD u.toNat 0 = shade w h l u y) _ ?_ ?_ _ ⟨by simp; omega, fun u _ _ => by omega⟩
    · rintro x row hx0 hxw ⟨hrl, hrd⟩ K2
      have hp0 := row_nonneg (w := w) (u := x) (v := y) (by omega) hx0 hy0
      have hp1 := row_lt (w := w) (h := h) (u := x) (v := y) hxw hx0 hy hy0
      have hsr := shade_range (w := w) (h := h) hx x y
      refine Ev.step (f := fun k => printing_Blur.l1 k r (2 * r + 1) s y (row.set x.toNat (shade w h l x y)) h y w (x + 1) w h l) (fun k => ?_) (K2 _ ⟨by rw [List.length_set]; exact hrl, fun u hu0 hu => ?_⟩)
      · simp only [printing_Blur.l1]
        rw [if_pos hxw, w64 (n := y * w) (by omega), w64 (n := y * w + x) (by omega), if_pos hp0, if_pos (by omega), if_pos hx0, if_pos (by omega), shade_rd V hx0 hxw hy0 hy, w64 (n := shade w h l x y) (by omega), w64 (n := x + 1) (by omega)]
      · rw [getD_set' _ _ _ _ _ (by omega)]
        by_cases he : u.toNat = x.toNat
        · rw [if_pos he]
          have : u = x := by omega
          rw [this]
        · rw [if_neg he]
          exact hrd u hu0 (by omega)
    · rintro row ⟨hrl, hrd⟩
      have hext : ∀ i, ext row 255 i = shade w h l i y := by
        intro i
        by_cases hi : 0 ≤ i ∧ i < (row.length : Int)
        · rw [ext, if_pos hi]
          exact hrd i hi.1 (by omega)
        · rw [ext_out hi]
          unfold shade pix
          rw [if_neg (by omega)]
      have hrow : wins row r 255 = (List.range row.length).map fun i : Nat => R i y := by
        unfold wins
        apply List.map_congr_left
        intro i hi
        exact acc_congr (fun j _ _ => hext j)
      have hwin := window_ok (l := row) (r := r) (z := 255) (B := 255) hr0 hr (by omega) (by omega) (fun i => by rw [hext]; exact shade_range hx i y)
      have hcp := row_getD_copy (w := w) (h := h) (s := s) (t := wins row r 255) hI.1 hy0 hy G1 (by rw [wins_length]; exact hrl)
      refine Ev.step (f := fun k => (printing_window.f k row r 255).bind fun t => printing_Blur.l0 k r (2 * r + 1) (copyIn s (y * w).toNat (s.length - (y * w).toNat) t) h (y + 1) w h l) (fun k => ?_) (Ev.bind hwin (K _ ⟨?_, ?_⟩))
      · simp only [printing_Blur.l1]
        rw [if_neg (by omega), w64 (n := y * w) (by omega), if_pos hyw0, if_pos (by have := hI.1; omega), w64 (n := y + 1) (by omega)]
      · rw [hcp.1]; exact hI.1
      · intro u v hu0 hu hv0 hv hvy
        rw [hcp.2 u v hu0 hu hv0 hv]
        by_cases he : v = y
        · subst he
          rw [if_pos rfl, hrow, List.getD_eq_getElem?_getD, List.getElem?_map, List.getElem?_range (by omega), Option.map_some, Option.getD_some, Int.toNat_of_nonneg hu0]
        · rw [if_neg he]
          exact hI.2 u v hu0 hu hv0 hv (by omega)
  · intro s hI
    refine Ev.step (f := fun k => printing_Blur.l2 k r (2 * r + 1) s w 0 w h l w h (List.replicate l.length 0)) (fun k => ?_) ?_
    · simp only [printing_Blur.l0]
      rw [if_neg (by omega), if_pos (by omega), if_pos (by omega)]
      rfl
    have hS : ∀ u v, 0 ≤ u → u < w → 0 ≤ v → v < h → rd s (v * w + u) = R u v := fun u v a b c d => hI.2 u v a b c d d
    let I2 : Int → Int → List Int → Prop := fun x y out => (out.length : Int) = w * h ∧ ∀ u v, 0 ≤ u → u < w → 0 ≤ v → v < h → (u < x ∨ (u = x ∧ v < y)) → out.getD (v * w + u).toNat 0 = meanOf w h l r u v
    refine ev_loop (fun k x out => printing_Blur.l2 k r (2 * r + 1) s w x w h l w h out) 0 w (by omega) (fun x out => I2 x 0 out) _ ?_ ?_ _ ⟨by simp; omega, fun u v _ _ _ _ _ => by omega⟩
    · intro x out hx0 hxw hJ K
      refine Ev.step (f := fun k => printing_Blur.l3 k r (2 * r + 1) s x (List.replicate h.toNat 0) w x h 0 w h l w h out) (fun k => ?_) ?_
      · simp only [printing_Blur.l2]
        rw [if_pos hxw, if_pos (by omega), if_pos (by omega)]
        simp only [Option.bind_some, List.length_replicate, Int.toNat_of_nonneg (show 0 ≤ h by omega)]
      refine ev_loop (fun k y col => printing_Blur.l3 k r (2 * r + 1) s x col w x h y w h l w h out) 0 h (by omega) (fun y col => (col.length : Int) = h ∧ ∀ v, 0 ≤ v → v < y → col.getD v.toNat 0 = R x v) _ ?_ ?_ _ ⟨by simp; omega, fun u _ _ => by omega⟩
      · rintro y col hy0 hyh ⟨hcl, hcd⟩ K2
        have hp0 := row_nonneg (w := w) (u := x) (v := y) (by omega) hx0 hy0
        have hp1 := row_lt (w := w) (h := h) (u := x) (v := y) hxw hx0 hyh hy0
        have hyw0 : 0 ≤ y * w := Int.mul_nonneg hy0 (by omega)
        refine Ev.step (f := fun k => printing_Blur.l3 k r (2 * r + 1) s x (col.set y.toNat (R x y)) w x h (y + 1) w h l w h out) (fun k => ?_) (K2 _ ⟨by rw [List.length_set]; exact hcl, fun v hv0 hv => ?_⟩)
        · simp only [printing_Blur.l3]
          rw [if_pos hyh, w64 (n := y * w) (by omega), w64 (n := y * w + x) (by omega), if_pos hp0, if_pos (by have := hI.1; omega), if_pos hy0, if_pos (by omega), hS x y hx0 hxw hy0 hyh, w64 (n := y + 1) (by omega)]
        · rw [getD_set' _ _ _ _ _ (by omega)]
          by_cases he : v.toNat = y.toNat
          · rw [if_pos he]
            have : v = y := by omega
            rw [this]
          · rw [if_neg he]
            exact hcd v hv0 (by omega)
      · rintro col ⟨hcl, hcd⟩
        have hout : ∀ v, ¬ (0 ≤ v ∧ v < h) → R x v = 255 * (2 * r + 1) := by
          intro v hv
          show acc (fun i => shade w h l i v) (x - r) (2 * r + 1).toNat = _
          rw [acc_congr (g := fun _ => 255) (fun i _ _ => by unfold shade pix; rw [if_neg (by omega)]), acc_const, hNi]
        have hext : ∀ i, ext col (255 * (2 * r + 1)) i = R x i := by
          intro i
          by_cases hi : 0 ≤ i ∧ i < (col.length : Int)
          · rw [ext, if_pos hi]
            exact hcd i hi.1 (by omega)
          · rw [ext_out hi]
            exact (hout i (by omega)).symm
        have hwin := window_ok (l := col) (r := r) (z := 255 * (2 * r + 1)) (B := 255 * 129) hr0 hr (by omega) (by omega) (fun i => by rw [hext]; exact hR x i)
        have hcol : ∀ v, 0 ≤ v → v < h → rd (wins col r (255 * (2 * r + 1))) v = boxSum w h l (2 * r + 1).toNat (x - r) (v - r) := by
          intro v hv0 hv
          unfold rd
          rw [wins_getD (by omega), Int.toNat_of_nonneg hv0]
          exact acc_congr (fun j _ _ => hext j)
        have hbox : ∀ v, 0 ≤ boxSum w h l (2 * r + 1).toNat (x - r) (v - r) ∧ boxSum w h l (2 * r + 1).toNat (x - r) (v - r) ≤ 255 * 129 * 129 := by
          intro v
          have := acc_bound (a := v - r) (fun j => hR x j) (2 * r + 1).toNat
          have e : acc (fun j => R x j) (v - r) (2 * r + 1).toNat = boxSum w h l (2 * r + 1).toNat (x - r) (v - r) := rfl
          rw [e] at this
          have h2 : (255 * 129 : Int) * ((2 * r + 1).toNat : Nat) ≤ 255 * 129 * 129 := by omega
          have h3 : (0 : Int) * ((2 * r + 1).toNat : Nat) = 0 := Int.zero_mul _
          omega
        refine Ev.step (f := fun k => (printing_window.f k col r (255 * (2 * r + 1))).bind fun t => printing_Blur.l4 k r (2 * r + 1) s x w x t t.length 0 w h l w h out) (fun k => ?_) (Ev.bind hwin ?_)
        · simp only [printing_Blur.l3]
          rw [if_neg (by omega), w64 (n := 255 * (2 * r + 1)) (by omega)]
        have hwl : ((wins col r (255 * (2 * r + 1))).length : Int) = h := by rw [wins_length]; exact hcl
        rw [hwl]
        generalize wins col r (255 * (2 * r + 1)) = t at hcol hwl
        refine ev_loop (fun k y out => printing_Blur.l4 k r (2 * r + 1) s x w x t h y w h l w h out) 0 h (by omega) (fun y out => I2 x y out) _ ?_ ?_ _ hJ
        · intro y out hy0 hyh hJ K2
          have hp0 := row_nonneg (w := w) (u := x) (v := y) (by omega) hx0 hy0
          have hp1 := row_lt (w := w) (h := h) (u := x) (v := y) hxw hx0 hyh hy0
          have hyw0 : 0 ≤ y * w := Int.mul_nonneg hy0 (by omega)
          have hb := hbox y
          have hc := hcol y hy0 hyh
          have hd0 : 0 ≤ (2 * boxSum w h l (2 * r + 1).toNat (x - r) (y - r) + (2 * r + 1) * (2 * r + 1)) / (2 * (2 * r + 1) * (2 * r + 1)) := Int.ediv_nonneg (by omega) (by omega)
          have hd1 : (2 * boxSum w h l (2 * r + 1).toNat (x - r) (y - r) + (2 * r + 1) * (2 * r + 1)) / (2 * (2 * r + 1) * (2 * r + 1)) ≤ 2 * boxSum w h l (2 * r + 1).toNat (x - r) (y - r) + (2 * r + 1) * (2 * r + 1) := Int.ediv_le_self _ (by omega)
          refine Ev.step (f := fun k => printing_Blur.l4 k r (2 * r + 1) s x w x t h (y + 1) w h l w h (out.set (y * w + x).toNat (meanOf w h l r x y))) (fun k => ?_) (K2 _ ⟨by rw [List.length_set]; exact hJ.1, fun u v hu0 hu hv0 hv hc2 => ?_⟩)
          · simp only [printing_Blur.l4]
            rw [if_pos hyh, if_pos hy0, if_pos (by omega), w64 (n := 2 * (2 * r + 1)) (by omega), w64 (n := 2 * (2 * r + 1) * (2 * r + 1)) (by omega), if_neg (by omega), w64 (n := y * w) (by omega), w64 (n := y * w + x) (by omega), if_pos hp0, if_pos (by have := hJ.1; omega), hc,
              w64 (n := 2 * boxSum w h l (2 * r + 1).toNat (x - r) (y - r)) (by omega), w64 (n := (2 * r + 1) * (2 * r + 1)) (by omega), w64 (n := 2 * boxSum w h l (2 * r + 1).toNat (x - r) (y - r) + (2 * r + 1) * (2 * r + 1)) (by omega), Int.tdiv_eq_ediv_of_nonneg (by omega),
              w64 (n := (2 * boxSum w h l (2 * r + 1).toNat (x - r) (y - r) + (2 * r + 1) * (2 * r + 1)) / (2 * (2 * r + 1) * (2 * r + 1))) (by omega), w64 (n := y + 1) (by omega)]
            rfl
          · rw [getD_set' _ _ _ _ _ (by have := hJ.1; omega)]
            by_cases he : (v * w + u).toNat = (y * w + x).toNat
            · have hvu := row_nonneg (w := w) (u := u) (v := v) (by omega) hu0 hv0
              have a1 : (v * w + u) / w = v := row_div hu0 hu
              have a2 : (y * w + x) / w = y := row_div hx0 hxw
              have a3 : v * w + u = y * w + x := by omega
              rw [a3, a2] at a1
              subst a1
              have : u = x := by omega
              subst this
              rw [if_pos rfl]
            · rw [if_neg he]
              refine hJ.2 u v hu0 hu hv0 hv ?_
              rcases hc2 with hc2 | ⟨hc2, hc3⟩
              · exact .inl hc2
              · right
                refine ⟨hc2, ?_⟩
                have : v ≠ y := fun hh => he (by rw [hh, hc2])
                omega
        · intro out hJ
          refine Ev.step (f := fun k => printing_Blur.l2 k r (2 * r + 1) s w (x + 1) w h l w h out) (fun k => ?_) (K _ ⟨hJ.1, fun u v hu0 hu hv0 hv hc => hJ.2 u v hu0 hu hv0 hv (by omega)⟩)
          simp only [printing_Blur.l4]
          rw [if_neg (by omega), w64 (n := x + 1) (by omega)]
    · intro out hJ
      refine ev_end (fun k => ?_)
      simp only [printing_Blur.l2]
      rw [if_neg (by omega), ← upto_of (w := w) (h := h) (d := 0) (l := out) (by omega) hJ.1 (fun u v a b c d => hJ.2 u v a b c d (by omega))]
theorem blur_bad {w h : Int} {l : List Int} {r : Int} (B : ¬ Valid w h l.length) : ∀ k, printing_Blur.f k w h l r = some (0, 0, [], 1) := by
  intro k
  unfold printing_Blur.f
  rw [checkImage_eq, if_neg B]
  rfl
theorem blur_range {w h : Int} {l : List Int} {r : Int} (V : Valid w h l.length) (B : ¬ (0 ≤ r ∧ r ≤ 64)) : ∀ k, printing_Blur.f k w h l r = some (0, 0, [], 3) := by
  intro k
  unfold printing_Blur.f
  rw [checkImage_eq, if_pos V]
  simp only [Option.bind_some, if_true]
  by_cases h0 : r < 0
  · rw [if_pos h0]
  · rw [if_neg h0, if_pos (by omega)]
end Go.Proofs.Ytbipbbckfmilfaa.Pure
