/-
The plane of a bitmap with margins: its sums, its transforms, and the bitmap without the margins. Conditions: as each theorem says.
-/
import Derived.Test.YtkakiblnhgpdnaaXBase37
import Derived.Test.YtkakiblnhgpdnaaPRx2
import Derived.Test.YtkakiblnhgpdnaaPRx3
import Derived.Test.YtkakiblnhgpdnaaPRx4
import Derived.Test.YtkakiblnhgpdnaaPRx5
namespace Go.Proofs.Ytkakiblnhgpdnaa.Pure
set_option linter.unusedVariables false
set_option linter.unusedSimpArgs false
open Go.RowKit Go.Proofs.Ytkakiblnhgpdnaa.PR Go.Proofs.YtkakiblnhgpdnaaW.PrintWords Go.Proofs.YtkakiblnhgpdnaaW.PrintLast Go.Proofs.YtkakiblnhgpdnaaW.PrintMore Go.Proofs.Ytkakiblnhgpdnaa.XWords Go.Proofs.Ytkakiblnhgpdnaa.XPure
theorem eq_map_of {α : Type} {n : Nat} {l : List α} {g : Int → α} {d : α} (hl : l.length = n) (h : ∀ j : Nat, j < n → l.getD j d = g j) : l = (List.range n).map fun i : Nat => g i := by
  apply List.ext_getElem?
  intro i
  by_cases hi : i < n
  · have h1 := h i hi
    rw [List.getD_eq_getElem?_getD, List.getElem?_eq_getElem (show i < l.length by omega), Option.getD_some] at h1
    rw [List.getElem?_map, List.getElem?_range hi, List.getElem?_eq_getElem (show i < l.length by omega), h1, Option.map_some]
  · rw [List.getElem?_eq_none (by omega), List.getElem?_eq_none (by simp; omega)]
/-- The rows of a table before and behind one. -/
theorem row_before {w u v y c : Int} (hw : 0 ≤ w) (hu : u < w) (hc : 0 ≤ c) (h : v < y) : v * w + u < y * w + c := by
  have h1 : (v + 1) * w ≤ y * w := Int.mul_le_mul_of_nonneg_right (by omega) hw
  rw [Int.add_mul, Int.one_mul] at h1
  omega

/-- A row laid into a table. -/
theorem copyRow_getD {α : Type} {d : α} {W H : Int} {out : List α} {y' c n : Int} {src : List α} (hl : (out.length : Int) = W * H) (hc : 0 ≤ c) (hn : c + n ≤ W) (hn0 : 0 ≤ n) (hs : (src.length : Int) = n)
    (hy0 : 0 ≤ y') (hy : y' < H) {off : Nat} (ho : (off : Int) = y' * W + c) {m : Nat} (hm : src.length ≤ m) {u v : Int} (hu0 : 0 ≤ u) (hu : u < W) (hv0 : 0 ≤ v) (hv : v < H) :
    (copyIn out off m src).getD (v * W + u).toNat d = if v = y' ∧ c ≤ u ∧ u < c + n then src.getD (u - c).toNat d else out.getD (v * W + u).toNat d := by
  unfold copyIn
  rw [List.take_of_length_le hm]
  have hW : 0 ≤ W := by omega
  have h1 := row_lt (w := W) (h := H) (u := u) (v := v) hu hu0 hv hv0
  have h2 := row_nonneg (w := W) (u := u) (v := v) hW hu0 hv0
  have h3 : y' * W + W ≤ W * H := by
    have := row_lt (w := W) (h := H) (u := W - 1) (v := y') (by omega) (by omega) hy hy0
    omega
  have h4 : ((v * W + u).toNat : Int) = v * W + u := Int.toNat_of_nonneg h2
  rw [getD_splice _ _ _ _ (by omega)]
  by_cases hv' : v = y'
  · subst hv'
    by_cases hcu : c ≤ u ∧ u < c + n
    · rw [if_pos (by omega), if_pos ⟨rfl, hcu⟩]
      congr 1
      omega
    · rw [if_neg (by omega), if_neg (by omega)]
  · have hne : ¬ (v = y' ∧ c ≤ u ∧ u < c + n) := fun hh => hv' hh.1
    rw [if_neg hne]
    rcases Int.lt_or_gt_of_ne hv' with hlt | hgt
    · have := row_before (c := 0) hW hu (Int.le_refl 0) hlt
      rw [if_neg (by omega)]
    · have : y' * W + (c + n - 1) < v * W + u ∨ n = 0 := by
        by_cases hn1 : n = 0
        · exact .inr hn1
        · exact .inl (row_before (w := W) (u := c + n - 1) (v := y') (y := v) (c := u) hW (by omega) hu0 hgt)
      rw [if_neg]
      rcases this with h | h
      · omega
      · omega

theorem mx_max (a b : Int) : mx a b = max a b := by unfold mx; split <;> omega
theorem mn_min (a b : Int) : mn a b = min a b := by unfold mn; split <;> omega
theorem row_eq {w u v x y : Int} (hu0 : 0 ≤ u) (hu : u < w) (hx0 : 0 ≤ x) (hx : x < w) (e : v * w + u = y * w + x) : v = y ∧ u = x := by
  have a : (v * w + u) / w = v := row_div hu0 hu
  have b : (y * w + x) / w = y := row_div hx0 hx
  rw [e] at a
  have hv : v = y := a.symm.trans b
  subst hv
  exact ⟨rfl, by omega⟩
/-- A row of pixels that reads as a function, which is light outside. -/
structure Tab (W H : Int) (l : List Bool) (D : Int → Int → Bool) : Prop where
  w1 : 1 ≤ W
  w2 : W ≤ 12288
  h1 : 1 ≤ H
  h2 : H ≤ 12288
  len : (l.length : Int) = W * H
  read : ∀ x y, 0 ≤ x → x < W → 0 ≤ y → y < H → l.getD (y * W + x).toNat false = D x y
  out : ∀ x y, ¬ (0 ≤ x ∧ x < W ∧ 0 ≤ y ∧ y < H) → D x y = false
theorem area_bound {W H : Int} (a : 1 ≤ W) (b : W ≤ 12289) (c : 1 ≤ H) (d : H ≤ 12289) : 1 ≤ W * H ∧ W * H ≤ 151019521 := by
  have h1 : 1 * 1 ≤ W * H := Int.mul_le_mul a c (by omega) (by omega)
  have h2 : W * H ≤ 12289 * 12289 := Int.mul_le_mul b d (by omega) (by omega)
  omega
/-- What lies outside is light. -/
def fence (W H : Int) (g : Int → Int → Bool) (x y : Int) : Bool := if 0 ≤ x ∧ x < W ∧ 0 ≤ y ∧ y < H then g x y else false
theorem tab_upto {W H : Int} (a : 1 ≤ W) (b : W ≤ 12288) (c : 1 ≤ H) (d : H ≤ 12288) (g : Int → Int → Bool) : Tab W H (upto W g (W * H).toNat) (fence W H g) := by
  have hb := area_bound a (by omega) c (by omega)
  refine ⟨a, b, c, d, by rw [upto_length]; omega, fun x y h1 h2 h3 h4 => ?_, fun x y h0 => if_neg h0⟩
  have hl := row_lt (w := W) (h := H) h2 h1 h4 h3
  rw [upto_getD h1 h2 h3 (by omega), fence, if_pos ⟨h1, h2, h3, h4⟩]
theorem tab_valid {w h : Int} {l : List Bool} (V : Valid w h l.length) : Tab w h l (pix false w h l) :=
  ⟨V.1.1, by have := V.1.2.1; omega, V.1.2.2.1, by have := V.1.2.2.2.1; omega, V.2, fun x y h1 h2 h3 h4 => (pix_in h1 h2 h3 h4).symm, fun x y h0 => pix_out h0⟩

theorem sums_ok {W H mx_ my_ : Int} {l : List Bool} {D : Int → Int → Bool} (T : Tab W H l D) :
    Ev (fun k => morphology_plane_sums.f k W H mx_ my_ l) (upto (W + 1) (corner D) ((W + 1) * (H + 1)).toNat) := by
  obtain ⟨w1, w2, h1, h2, hlen, hread, hout⟩ := T
  have hb := area_bound (W := W + 1) (H := H + 1) (by omega) (by omega) (by omega) (by omega)
  have hb2 := area_bound (W := W) (H := H) (by omega) (by omega) (by omega) (by omega)
  unfold morphology_plane_sums.f
  rw [w64 (n := W + 1) (by omega), w64 (n := H + 1) (by omega), w64 (n := (W + 1) * (H + 1)) (by omega)]
  simp only [if_pos (show 0 ≤ (W + 1) * (H + 1) by omega), if_pos (show ((W + 1) * (H + 1)).toNat ≤ 35184372088832 by omega)]
  let I : Int → Int → List Int → Prop := fun y x out => (out.length : Int) = (W + 1) * (H + 1) ∧ ∀ i j, 0 ≤ i → i < W + 1 → 0 ≤ j → j < H + 1 → (j ≤ y ∨ (j = y + 1 ∧ i ≤ x) ∨ i = 0) → out.getD (j * (W + 1) + i).toNat 0 = corner D i j
  refine ev_loop (fun k y out => morphology_plane_sums.l0 k out H y W H mx_ my_ l) 0 H (by omega) (fun y out => I y 0 out) _ ?_ ?_ _ ?_
  · intro y out hy0 hy hI K
    refine Ev.step (f := fun k => morphology_plane_sums.l1 k out y H y W 0 W H mx_ my_ l) (fun k => ?_) ?_
    · simp only [morphology_plane_sums.l0]
      rw [if_pos hy]
    refine ev_loop (fun k x out => morphology_plane_sums.l1 k out y H y W x W H mx_ my_ l) 0 W (by omega) (fun x out => I y x out) _ ?_ ?_ out hI
    · intro x out hx0 hx hJ K2
      have e1 : (y + 1) * (W + 1) = y * (W + 1) + (W + 1) := by rw [Int.add_mul, Int.one_mul]
      have c0 : 0 ≤ y * (W + 1) := Int.mul_nonneg hy0 (by omega)
      have c1 := row_lt (w := W + 1) (h := H + 1) (u := x + 1) (v := y + 1) (by omega) (by omega) (by omega) (by omega)
      have d0 : 0 ≤ y * W := Int.mul_nonneg hy0 (by omega)
      have d1 := row_lt (w := W) (h := H) (u := x) (v := y) hx hx0 hy hy0
      have r1 : rd out ((y + 1) * (W + 1) + x + 1 - 1) = corner D x (y + 1) := by
        have e : (y + 1) * (W + 1) + x + 1 - 1 = (y + 1) * (W + 1) + x := by omega
        rw [e]
        exact hJ.2 x (y + 1) hx0 (by omega) (by omega) (by omega) (by omega)
      have r2 : rd out ((y + 1) * (W + 1) + x + 1 - W - 1) = corner D (x + 1) y := by
        have e : (y + 1) * (W + 1) + x + 1 - W - 1 = y * (W + 1) + (x + 1) := by omega
        rw [e]
        exact hJ.2 (x + 1) y (by omega) (by omega) (by omega) (by omega) (by omega)
      have r3 : rd out ((y + 1) * (W + 1) + x + 1 - W - 2) = corner D x y := by
        have e : (y + 1) * (W + 1) + x + 1 - W - 2 = y * (W + 1) + x := by omega
        rw [e]
        exact hJ.2 x y (by omega) (by omega) (by omega) (by omega) (by omega)
      have rl : rdOf false l (y * W + x) = D x y := hread x y hx0 hx hy0 hy
      have q1 := corner_range D (i := x) (j := y + 1) hx0 (by omega) (by omega) (by omega)
      have q2 := corner_range D (i := x + 1) (j := y) (by omega) (by omega) (by omega) (by omega)
      have q3 := corner_range D (i := x) (j := y) (by omega) (by omega) (by omega) (by omega)
      have st := corner_step D hx0 hy0
      have hbit := bit_range (D x y)
      refine Ev.step (f := fun k => morphology_plane_sums.l1 k (out.set ((y + 1) * (W + 1) + x + 1).toNat (corner D (x + 1) (y + 1))) y H y W (x + 1) W H mx_ my_ l) (fun k => ?_) (K2 _ ⟨by rw [List.length_set]; exact hJ.1, fun i j hi0 hi hj0 hj hc => ?_⟩)
      · simp only [morphology_plane_sums.l1]
        have hJ1 := hJ.1
        rw [if_pos hx, w64 (n := y * W) (by omega), w64 (n := y * W + x) (by omega), if_pos (by omega), if_pos (by omega), w64 (n := y + 1) (by omega), w64 (n := W + 1) (by omega), w64 (n := (y + 1) * (W + 1)) (by omega), w64 (n := (y + 1) * (W + 1) + x) (by omega),
          w64 (n := (y + 1) * (W + 1) + x + 1) (by omega), w64 (n := (y + 1) * (W + 1) + x + 1 - 1) (by omega), w64 (n := (y + 1) * (W + 1) + x + 1 - W) (by omega), w64 (n := (y + 1) * (W + 1) + x + 1 - W - 1) (by omega), w64 (n := (y + 1) * (W + 1) + x + 1 - W - 2) (by omega),
          if_pos (show 0 ≤ (y + 1) * (W + 1) + x + 1 - 1 by omega), if_pos (show (y + 1) * (W + 1) + x + 1 - 1 < (out.length : Int) by omega), if_pos (show 0 ≤ (y + 1) * (W + 1) + x + 1 - W - 1 by omega), if_pos (show (y + 1) * (W + 1) + x + 1 - W - 1 < (out.length : Int) by omega),
          if_pos (show 0 ≤ (y + 1) * (W + 1) + x + 1 - W - 2 by omega), if_pos (show (y + 1) * (W + 1) + x + 1 - W - 2 < (out.length : Int) by omega), if_pos (show 0 ≤ (y + 1) * (W + 1) + x + 1 by omega), if_pos (show (y + 1) * (W + 1) + x + 1 < (out.length : Int) by omega), r1, r2, r3, rl, w64 (n := x + 1) (by omega)]
        by_cases hd : D x y = true
        · have hb1 : bit (D x y) = 1 := bit_one.2 hd
          rw [if_pos hd, w64 (n := 1 + corner D x (y + 1)) (by omega), w64 (n := 1 + corner D x (y + 1) + corner D (x + 1) y) (by omega), w64 (n := 1 + corner D x (y + 1) + corner D (x + 1) y - corner D x y) (by omega)]
          rw [st, hb1]
        · have hb1 : bit (D x y) = 0 := if_neg hd
          rw [if_neg hd, w64 (n := corner D x (y + 1)) (by omega), w64 (n := corner D x (y + 1) + corner D (x + 1) y) (by omega), w64 (n := corner D x (y + 1) + corner D (x + 1) y - corner D x y) (by omega)]
          rw [st, hb1, Int.zero_add, if_pos (by omega), if_pos (by omega), if_pos (by omega), if_pos (by omega), if_pos (by omega), if_pos (by omega), if_pos (by omega), if_pos (by omega)]
      · have hJ1 := hJ.1
        rw [getD_set' _ _ _ _ _ (by omega)]
        have hij := row_nonneg (w := W + 1) (u := i) (v := j) (by omega) hi0 hj0
        by_cases he : (j * (W + 1) + i).toNat = ((y + 1) * (W + 1) + x + 1).toNat
        · obtain ⟨g1, g2⟩ := row_eq (w := W + 1) (u := i) (v := j) (x := x + 1) (y := y + 1) hi0 hi (by omega) (by omega) (by omega)
          rw [if_pos he, g1, g2]
        · rw [if_neg he]
          refine hJ.2 i j hi0 hi hj0 hj ?_
          rcases hc with hc | ⟨hc1, hc2⟩ | hc
          · exact .inl hc
          · by_cases hix : i = x + 1
            · exact absurd (by rw [hc1, hix]; congr 1; omega) he
            · exact .inr (.inl ⟨hc1, by omega⟩)
          · exact .inr (.inr hc)
    · intro out hJ
      refine Ev.step (f := fun k => morphology_plane_sums.l0 k out H (y + 1) W H mx_ my_ l) (fun k => ?_) (K _ ⟨hJ.1, fun i j hi0 hi hj0 hj hc => hJ.2 i j hi0 hi hj0 hj (by omega)⟩)
      simp only [morphology_plane_sums.l1]
      rw [if_neg (by omega), w64 (n := y + 1) (by omega)]
  · intro out hI
    refine ev_end (fun k => ?_)
    simp only [morphology_plane_sums.l0]
    rw [if_neg (by omega), ← upto_of (w := W + 1) (h := H + 1) (d := 0) (l := out) (by omega) hI.1 (fun u v a b c d => hI.2 u v a b c d (by omega))]
  · refine ⟨by rw [List.length_replicate]; omega, fun i j hi0 hi hj0 hj hc => ?_⟩
    rw [getD_replicate]
    rcases hc with hc | ⟨hc1, hc2⟩ | hc
    · have : j = 0 := by omega
      rw [this, corner_top]
    · have : i = 0 := by omega
      rw [this, corner_left]
    · rw [hc, corner_left]

theorem transform_46_ok {W H mx_ my_ r s : Int} {l : List Bool} {D : Int → Int → Bool} (T : Tab W H l D) (hr : Rad r) (hs : Rad s) :
    Ev (fun k => morphology_plane_transform.f k W H mx_ my_ l r s 46) (W, H, mx_, my_, upto W (fun x y => (around D r s x y == (2 * r + 1) * (2 * s + 1))) (W * H).toNat) := by
  have hsum := sums_ok (mx_ := mx_) (my_ := my_) T
  obtain ⟨w1, w2, h1, h2, hlen, hread, hout⟩ := T
  obtain ⟨hr0, hr2⟩ := hr
  obtain ⟨hs0, hs2⟩ := hs
  have hb := area_bound (W := W + 1) (H := H + 1) (by omega) (by omega) (by omega) (by omega)
  have hb2 := area_bound (W := W) (H := H) (by omega) (by omega) (by omega) (by omega)
  have hall : 0 ≤ (2 * r + 1) * (2 * s + 1) ∧ (2 * r + 1) * (2 * s + 1) ≤ 8193 * 8193 := ⟨Int.mul_nonneg (by omega) (by omega), Int.mul_le_mul (by omega) (by omega) (by omega) (by omega)⟩
  unfold morphology_plane_transform.f
  simp only [if_true]
  unfold morphology_plane_transform_46.f
  refine Ev.bind hsum ?_
  simp only [if_pos (show (0 : Int) ≤ (l.length : Int) by omega), if_pos (show ((l.length : Int)).toNat ≤ 281474976710656 by omega)]
  rw [w64 (n := 2 * r) (by omega), w64 (n := 2 * s) (by omega), w64 (n := 2 * r + 1) (by omega), w64 (n := 2 * s + 1) (by omega), w64 (n := (2 * r + 1) * (2 * s + 1)) (by omega)]
  have hS : ∀ i j, 0 ≤ i → i < W + 1 → 0 ≤ j → j < H + 1 → rd (upto (W + 1) (corner D) ((W + 1) * (H + 1)).toNat) (j * (W + 1) + i) = corner D i j := by
    intro i j a b c d
    have := row_lt (w := W + 1) (h := H + 1) b a d c
    exact upto_getD a b c (by omega)
  have hSl : ((upto (W + 1) (corner D) ((W + 1) * (H + 1)).toNat).length : Int) = (W + 1) * (H + 1) := by rw [upto_length]; omega
  generalize upto (W + 1) (corner D) ((W + 1) * (H + 1)).toNat = S at hS hSl
  let I : Int → Int → List Bool → Prop := fun y x out => (out.length : Int) = W * H ∧ ∀ u v, 0 ≤ u → u < W → 0 ≤ v → v < H → (v < y ∨ (v = y ∧ u < x)) → out.getD (v * W + u).toNat false = (fun x y => (around D r s x y == (2 * r + 1) * (2 * s + 1))) u v
  refine ev_loop (fun k y out => morphology_plane_transform_46.l0 k r s S ((2 * r + 1) * (2 * s + 1)) H y W H mx_ my_ l W H mx_ my_ out) 0 H (by omega) (fun y out => I y 0 out) _ ?_ ?_ _ ⟨by rw [List.length_replicate]; omega, fun u v _ _ _ _ hc => by omega⟩
  · intro y out hy0 hy hI K
    refine Ev.step (f := fun k => morphology_plane_transform_46.l1 k r s S ((2 * r + 1) * (2 * s + 1)) y (max 0 (y - s)) (min H (y + s + 1)) H y W 0 W H mx_ my_ l W H mx_ my_ out) (fun k => ?_) ?_
    · simp only [morphology_plane_transform_46.l0]
      rw [if_pos hy, w64 (n := y - s) (by omega), w64 (n := y + s) (by omega), w64 (n := y + s + 1) (by omega), mx_max, mn_min]
    generalize hT : max 0 (y - s) = T
    generalize hB : min H (y + s + 1) = B
    have hT1 : 0 ≤ T ∧ T ≤ H := by omega
    have hB1 : 0 ≤ B ∧ B ≤ H := by omega
    refine ev_loop (fun k x out => morphology_plane_transform_46.l1 k r s S ((2 * r + 1) * (2 * s + 1)) y T B H y W x W H mx_ my_ l W H mx_ my_ out) 0 W (by omega) (fun x out => I y x out) _ ?_ ?_ out hI
    · intro x out hx0 hx hJ K2
      have har := around_range (D := D) (x := x) (y := y) hr0 hr2 hs0 hs2
      have hac := around_corner (D := D) (w := W) (h := H) hout hr0 hs0 hx0 hx hy0 hy rfl rfl hT.symm hB.symm
      generalize hL : max 0 (x - r) = L at hac
      generalize hR : min W (x + r + 1) = R at hac
      have hL1 : 0 ≤ L ∧ L < W + 1 := by omega
      have hR1 : 0 ≤ R ∧ R < W + 1 := by omega
      have p1 := hS R B hR1.1 hR1.2 hB1.1 (by omega)
      have p2 := hS R T hR1.1 hR1.2 hT1.1 (by omega)
      have p3 := hS L B hL1.1 hL1.2 hB1.1 (by omega)
      have p4 := hS L T hL1.1 hL1.2 hT1.1 (by omega)
      have q1 := corner_range D (i := R) (j := B) hR1.1 (by omega) hB1.1 (by omega)
      have q2 := corner_range D (i := R) (j := T) hR1.1 (by omega) hT1.1 (by omega)
      have q3 := corner_range D (i := L) (j := B) hL1.1 (by omega) hB1.1 (by omega)
      have q4 := corner_range D (i := L) (j := T) hL1.1 (by omega) hT1.1 (by omega)
      have b0 : 0 ≤ B * (W + 1) := Int.mul_nonneg hB1.1 (by omega)
      have t0 : 0 ≤ T * (W + 1) := Int.mul_nonneg hT1.1 (by omega)
      have b1 := row_lt (w := W + 1) (h := H + 1) (u := R) (v := B) hR1.2 hR1.1 (by omega) hB1.1
      have b2 := row_lt (w := W + 1) (h := H + 1) (u := L) (v := B) hL1.2 hL1.1 (by omega) hB1.1
      have t1 := row_lt (w := W + 1) (h := H + 1) (u := R) (v := T) hR1.2 hR1.1 (by omega) hT1.1
      have t2 := row_lt (w := W + 1) (h := H + 1) (u := L) (v := T) hL1.2 hL1.1 (by omega) hT1.1
      have d0 : 0 ≤ y * W := Int.mul_nonneg hy0 (by omega)
      have d1 := row_lt (w := W) (h := H) (u := x) (v := y) hx hx0 hy hy0
      have hJ1 := hJ.1
      refine Ev.step (f := fun k => morphology_plane_transform_46.l1 k r s S ((2 * r + 1) * (2 * s + 1)) y T B H y W (x + 1) W H mx_ my_ l W H mx_ my_ (out.set (y * W + x).toNat ((fun x y => (around D r s x y == (2 * r + 1) * (2 * s + 1))) x y))) (fun k => ?_) (K2 _ ⟨by rw [List.length_set]; exact hJ.1, fun u v hu0 hu hv0 hv hc => ?_⟩)
      · simp only [morphology_plane_transform_46.l1]
        rw [if_pos hx, w64 (n := W + 1) (by omega), w64 (n := B * (W + 1)) (by omega), w64 (n := T * (W + 1)) (by omega), w64 (n := x + r) (by omega), w64 (n := x + r + 1) (by omega), w64 (n := x - r) (by omega), mn_min, mx_max, hL, hR,
          w64 (n := B * (W + 1) + R) (by omega), w64 (n := T * (W + 1) + R) (by omega), w64 (n := B * (W + 1) + L) (by omega), w64 (n := T * (W + 1) + L) (by omega),
          if_pos (by omega), if_pos (by omega), if_pos (by omega), if_pos (by omega), if_pos (by omega), if_pos (by omega), if_pos (by omega), if_pos (by omega), p1, p2, p3, p4,
          w64 (n := corner D R B - corner D R T) (by omega), w64 (n := corner D R B - corner D R T - corner D L B) (by omega), w64 (n := corner D R B - corner D R T - corner D L B + corner D L T) (by omega), hac,
          w64 (n := y * W) (by omega), w64 (n := y * W + x) (by omega)]
        unfold morphology_erosion_1.f
        rw [Option.bind_some, if_pos (by omega), if_pos (by omega), w64 (n := x + 1) (by omega)]
      · rw [getD_set' _ _ _ _ _ (by omega)]
        have huv := row_nonneg (w := W) (u := u) (v := v) (by omega) hu0 hv0
        by_cases he : (v * W + u).toNat = (y * W + x).toNat
        · obtain ⟨g1, g2⟩ := row_eq (w := W) (u := u) (v := v) (x := x) (y := y) hu0 hu hx0 hx (by omega)
          rw [if_pos he, g1, g2]
        · rw [if_neg he]
          refine hJ.2 u v hu0 hu hv0 hv ?_
          rcases hc with hc | ⟨hc1, hc2⟩
          · exact .inl hc
          · refine .inr ⟨hc1, ?_⟩
            have : u ≠ x := fun hh => he (by rw [hc1, hh])
            omega
    · intro out hJ
      refine Ev.step (f := fun k => morphology_plane_transform_46.l0 k r s S ((2 * r + 1) * (2 * s + 1)) H (y + 1) W H mx_ my_ l W H mx_ my_ out) (fun k => ?_) (K _ ⟨hJ.1, fun u v hu0 hu hv0 hv hc => hJ.2 u v hu0 hu hv0 hv (by omega)⟩)
      simp only [morphology_plane_transform_46.l1]
      rw [if_neg (by omega), w64 (n := y + 1) (by omega)]
  · intro out hI
    refine ev_end (fun k => ?_)
    simp only [morphology_plane_transform_46.l0]
    rw [if_neg (by omega), ← upto_of (w := W) (h := H) (d := false) (l := out) (by omega) hI.1 (fun u v a b c d => hI.2 u v a b c d (by omega))]

theorem transform_47_ok {W H mx_ my_ r s : Int} {l : List Bool} {D : Int → Int → Bool} (T : Tab W H l D) (hr : Rad r) (hs : Rad s) :
    Ev (fun k => morphology_plane_transform.f k W H mx_ my_ l r s 47) (W, H, mx_, my_, upto W (fun x y => decide (around D r s x y > 0)) (W * H).toNat) := by
  have hsum := sums_ok (mx_ := mx_) (my_ := my_) T
  obtain ⟨w1, w2, h1, h2, hlen, hread, hout⟩ := T
  obtain ⟨hr0, hr2⟩ := hr
  obtain ⟨hs0, hs2⟩ := hs
  have hb := area_bound (W := W + 1) (H := H + 1) (by omega) (by omega) (by omega) (by omega)
  have hb2 := area_bound (W := W) (H := H) (by omega) (by omega) (by omega) (by omega)
  have hall : 0 ≤ (2 * r + 1) * (2 * s + 1) ∧ (2 * r + 1) * (2 * s + 1) ≤ 8193 * 8193 := ⟨Int.mul_nonneg (by omega) (by omega), Int.mul_le_mul (by omega) (by omega) (by omega) (by omega)⟩
  unfold morphology_plane_transform.f
  simp only [if_true, if_neg (show ¬ (47 = 46) by decide)]
  unfold morphology_plane_transform_47.f
  refine Ev.bind hsum ?_
  simp only [if_pos (show (0 : Int) ≤ (l.length : Int) by omega), if_pos (show ((l.length : Int)).toNat ≤ 281474976710656 by omega)]
  rw [w64 (n := 2 * r) (by omega), w64 (n := 2 * s) (by omega), w64 (n := 2 * r + 1) (by omega), w64 (n := 2 * s + 1) (by omega), w64 (n := (2 * r + 1) * (2 * s + 1)) (by omega)]
  have hS : ∀ i j, 0 ≤ i → i < W + 1 → 0 ≤ j → j < H + 1 → rd (upto (W + 1) (corner D) ((W + 1) * (H + 1)).toNat) (j * (W + 1) + i) = corner D i j := by
    intro i j a b c d
    have := row_lt (w := W + 1) (h := H + 1) b a d c
    exact upto_getD a b c (by omega)
  have hSl : ((upto (W + 1) (corner D) ((W + 1) * (H + 1)).toNat).length : Int) = (W + 1) * (H + 1) := by rw [upto_length]; omega
  generalize upto (W + 1) (corner D) ((W + 1) * (H + 1)).toNat = S at hS hSl
  let I : Int → Int → List Bool → Prop := fun y x out => (out.length : Int) = W * H ∧ ∀ u v, 0 ≤ u → u < W → 0 ≤ v → v < H → (v < y ∨ (v = y ∧ u < x)) → out.getD (v * W + u).toNat false = (fun x y => decide (around D r s x y > 0)) u v
  refine ev_loop (fun k y out => morphology_plane_transform_47.l0 k r s S ((2 * r + 1) * (2 * s + 1)) H y W H mx_ my_ l W H mx_ my_ out) 0 H (by omega) (fun y out => I y 0 out) _ ?_ ?_ _ ⟨by rw [List.length_replicate]; omega, fun u v _ _ _ _ hc => by omega⟩
  · intro y out hy0 hy hI K
    refine Ev.step (f := fun k => morphology_plane_transform_47.l1 k r s S ((2 * r + 1) * (2 * s + 1)) y (max 0 (y - s)) (min H (y + s + 1)) H y W 0 W H mx_ my_ l W H mx_ my_ out) (fun k => ?_) ?_
    · simp only [morphology_plane_transform_47.l0]
      rw [if_pos hy, w64 (n := y - s) (by omega), w64 (n := y + s) (by omega), w64 (n := y + s + 1) (by omega), mx_max, mn_min]
    generalize hT : max 0 (y - s) = T
    generalize hB : min H (y + s + 1) = B
    have hT1 : 0 ≤ T ∧ T ≤ H := by omega
    have hB1 : 0 ≤ B ∧ B ≤ H := by omega
    refine ev_loop (fun k x out => morphology_plane_transform_47.l1 k r s S ((2 * r + 1) * (2 * s + 1)) y T B H y W x W H mx_ my_ l W H mx_ my_ out) 0 W (by omega) (fun x out => I y x out) _ ?_ ?_ out hI
    · intro x out hx0 hx hJ K2
      have har := around_range (D := D) (x := x) (y := y) hr0 hr2 hs0 hs2
      have hac := around_corner (D := D) (w := W) (h := H) hout hr0 hs0 hx0 hx hy0 hy rfl rfl hT.symm hB.symm
      generalize hL : max 0 (x - r) = L at hac
      generalize hR : min W (x + r + 1) = R at hac
      have hL1 : 0 ≤ L ∧ L < W + 1 := by omega
      have hR1 : 0 ≤ R ∧ R < W + 1 := by omega
      have p1 := hS R B hR1.1 hR1.2 hB1.1 (by omega)
      have p2 := hS R T hR1.1 hR1.2 hT1.1 (by omega)
      have p3 := hS L B hL1.1 hL1.2 hB1.1 (by omega)
      have p4 := hS L T hL1.1 hL1.2 hT1.1 (by omega)
      have q1 := corner_range D (i := R) (j := B) hR1.1 (by omega) hB1.1 (by omega)
      have q2 := corner_range D (i := R) (j := T) hR1.1 (by omega) hT1.1 (by omega)
      have q3 := corner_range D (i := L) (j := B) hL1.1 (by omega) hB1.1 (by omega)
      have q4 := corner_range D (i := L) (j := T) hL1.1 (by omega) hT1.1 (by omega)
      have b0 : 0 ≤ B * (W + 1) := Int.mul_nonneg hB1.1 (by omega)
      have t0 : 0 ≤ T * (W + 1) := Int.mul_nonneg hT1.1 (by omega)
      have b1 := row_lt (w := W + 1) (h := H + 1) (u := R) (v := B) hR1.2 hR1.1 (by omega) hB1.1
      have b2 := row_lt (w := W + 1) (h := H + 1) (u := L) (v := B) hL1.2 hL1.1 (by omega) hB1.1
      have t1 := row_lt (w := W + 1) (h := H + 1) (u := R) (v := T) hR1.2 hR1.1 (by omega) hT1.1
      have t2 := row_lt (w := W + 1) (h := H + 1) (u := L) (v := T) hL1.2 hL1.1 (by omega) hT1.1
      have d0 : 0 ≤ y * W := Int.mul_nonneg hy0 (by omega)
      have d1 := row_lt (w := W) (h := H) (u := x) (v := y) hx hx0 hy hy0
      have hJ1 := hJ.1
      refine Ev.step (f := fun k => morphology_plane_transform_47.l1 k r s S ((2 * r + 1) * (2 * s + 1)) y T B H y W (x + 1) W H mx_ my_ l W H mx_ my_ (out.set (y * W + x).toNat ((fun x y => decide (around D r s x y > 0)) x y))) (fun k => ?_) (K2 _ ⟨by rw [List.length_set]; exact hJ.1, fun u v hu0 hu hv0 hv hc => ?_⟩)
      · simp only [morphology_plane_transform_47.l1]
        rw [if_pos hx, w64 (n := W + 1) (by omega), w64 (n := B * (W + 1)) (by omega), w64 (n := T * (W + 1)) (by omega), w64 (n := x + r) (by omega), w64 (n := x + r + 1) (by omega), w64 (n := x - r) (by omega), mn_min, mx_max, hL, hR,
          w64 (n := B * (W + 1) + R) (by omega), w64 (n := T * (W + 1) + R) (by omega), w64 (n := B * (W + 1) + L) (by omega), w64 (n := T * (W + 1) + L) (by omega),
          if_pos (by omega), if_pos (by omega), if_pos (by omega), if_pos (by omega), if_pos (by omega), if_pos (by omega), if_pos (by omega), if_pos (by omega), p1, p2, p3, p4,
          w64 (n := corner D R B - corner D R T) (by omega), w64 (n := corner D R B - corner D R T - corner D L B) (by omega), w64 (n := corner D R B - corner D R T - corner D L B + corner D L T) (by omega), hac,
          w64 (n := y * W) (by omega), w64 (n := y * W + x) (by omega)]
        unfold morphology_dilation_1.f
        rw [Option.bind_some, if_pos (by omega), if_pos (by omega), w64 (n := x + 1) (by omega)]
      · rw [getD_set' _ _ _ _ _ (by omega)]
        have huv := row_nonneg (w := W) (u := u) (v := v) (by omega) hu0 hv0
        by_cases he : (v * W + u).toNat = (y * W + x).toNat
        · obtain ⟨g1, g2⟩ := row_eq (w := W) (u := u) (v := v) (x := x) (y := y) hu0 hu hx0 hx (by omega)
          rw [if_pos he, g1, g2]
        · rw [if_neg he]
          refine hJ.2 u v hu0 hu hv0 hv ?_
          rcases hc with hc | ⟨hc1, hc2⟩
          · exact .inl hc
          · refine .inr ⟨hc1, ?_⟩
            have : u ≠ x := fun hh => he (by rw [hc1, hh])
            omega
    · intro out hJ
      refine Ev.step (f := fun k => morphology_plane_transform_47.l0 k r s S ((2 * r + 1) * (2 * s + 1)) H (y + 1) W H mx_ my_ l W H mx_ my_ out) (fun k => ?_) (K _ ⟨hJ.1, fun u v hu0 hu hv0 hv hc => hJ.2 u v hu0 hu hv0 hv (by omega)⟩)
      simp only [morphology_plane_transform_47.l1]
      rw [if_neg (by omega), w64 (n := y + 1) (by omega)]
  · intro out hI
    refine ev_end (fun k => ?_)
    simp only [morphology_plane_transform_47.l0]
    rw [if_neg (by omega), ← upto_of (w := W) (h := H) (d := false) (l := out) (by omega) hI.1 (fun u v a b c d => hI.2 u v a b c d (by omega))]

theorem transform_52_ok {W H mx_ my_ r s : Int} {l : List Bool} {D : Int → Int → Bool} (T : Tab W H l D) (hr : Rad r) (hs : Rad s) :
    Ev (fun k => morphology_plane_transform.f k W H mx_ my_ l r s 52) (W, H, mx_, my_, upto W (fun x y => decide (2 * around D r s x y > (2 * r + 1) * (2 * s + 1))) (W * H).toNat) := by
  have hsum := sums_ok (mx_ := mx_) (my_ := my_) T
  obtain ⟨w1, w2, h1, h2, hlen, hread, hout⟩ := T
  obtain ⟨hr0, hr2⟩ := hr
  obtain ⟨hs0, hs2⟩ := hs
  have hb := area_bound (W := W + 1) (H := H + 1) (by omega) (by omega) (by omega) (by omega)
  have hb2 := area_bound (W := W) (H := H) (by omega) (by omega) (by omega) (by omega)
  have hall : 0 ≤ (2 * r + 1) * (2 * s + 1) ∧ (2 * r + 1) * (2 * s + 1) ≤ 8193 * 8193 := ⟨Int.mul_nonneg (by omega) (by omega), Int.mul_le_mul (by omega) (by omega) (by omega) (by omega)⟩
  unfold morphology_plane_transform.f
  simp only [if_true, if_neg (show ¬ (52 = 46) by decide), if_neg (show ¬ (52 = 47) by decide)]
  unfold morphology_plane_transform_52.f
  refine Ev.bind hsum ?_
  simp only [if_pos (show (0 : Int) ≤ (l.length : Int) by omega), if_pos (show ((l.length : Int)).toNat ≤ 281474976710656 by omega)]
  rw [w64 (n := 2 * r) (by omega), w64 (n := 2 * s) (by omega), w64 (n := 2 * r + 1) (by omega), w64 (n := 2 * s + 1) (by omega), w64 (n := (2 * r + 1) * (2 * s + 1)) (by omega)]
  have hS : ∀ i j, 0 ≤ i → i < W + 1 → 0 ≤ j → j < H + 1 → rd (upto (W + 1) (corner D) ((W + 1) * (H + 1)).toNat) (j * (W + 1) + i) = corner D i j := by
    intro i j a b c d
    have := row_lt (w := W + 1) (h := H + 1) b a d c
    exact upto_getD a b c (by omega)
  have hSl : ((upto (W + 1) (corner D) ((W + 1) * (H + 1)).toNat).length : Int) = (W + 1) * (H + 1) := by rw [upto_length]; omega
  generalize upto (W + 1) (corner D) ((W + 1) * (H + 1)).toNat = S at hS hSl
  let I : Int → Int → List Bool → Prop := fun y x out => (out.length : Int) = W * H ∧ ∀ u v, 0 ≤ u → u < W → 0 ≤ v → v < H → (v < y ∨ (v = y ∧ u < x)) → out.getD (v * W + u).toNat false = (fun x y => decide (2 * around D r s x y > (2 * r + 1) * (2 * s + 1))) u v
  refine ev_loop (fun k y out => morphology_plane_transform_52.l0 k r s S ((2 * r + 1) * (2 * s + 1)) H y W H mx_ my_ l W H mx_ my_ out) 0 H (by omega) (fun y out => I y 0 out) _ ?_ ?_ _ ⟨by rw [List.length_replicate]; omega, fun u v _ _ _ _ hc => by omega⟩
  · intro y out hy0 hy hI K
    refine Ev.step (f := fun k => morphology_plane_transform_52.l1 k r s S ((2 * r + 1) * (2 * s + 1)) y (max 0 (y - s)) (min H (y + s + 1)) H y W 0 W H mx_ my_ l W H mx_ my_ out) (fun k => ?_) ?_
    · simp only [morphology_plane_transform_52.l0]
      rw [if_pos hy, w64 (n := y - s) (by omega), w64 (n := y + s) (by omega), w64 (n := y + s + 1) (by omega), mx_max, mn_min]
    generalize hT : max 0 (y - s) = T
    generalize hB : min H (y + s + 1) = B
    have hT1 : 0 ≤ T ∧ T ≤ H := by omega
    have hB1 : 0 ≤ B ∧ B ≤ H := by omega
    refine ev_loop (fun k x out => morphology_plane_transform_52.l1 k r s S ((2 * r + 1) * (2 * s + 1)) y T B H y W x W H mx_ my_ l W H mx_ my_ out) 0 W (by omega) (fun x out => I y x out) _ ?_ ?_ out hI
    · intro x out hx0 hx hJ K2
      have har := around_range (D := D) (x := x) (y := y) hr0 hr2 hs0 hs2
      have hac := around_corner (D := D) (w := W) (h := H) hout hr0 hs0 hx0 hx hy0 hy rfl rfl hT.symm hB.symm
      generalize hL : max 0 (x - r) = L at hac
      generalize hR : min W (x + r + 1) = R at hac
      have hL1 : 0 ≤ L ∧ L < W + 1 := by omega
      have hR1 : 0 ≤ R ∧ R < W + 1 := by omega
      have p1 := hS R B hR1.1 hR1.2 hB1.1 (by omega)
      have p2 := hS R T hR1.1 hR1.2 hT1.1 (by omega)
      have p3 := hS L B hL1.1 hL1.2 hB1.1 (by omega)
      have p4 := hS L T hL1.1 hL1.2 hT1.1 (by omega)
      have q1 := corner_range D (i := R) (j := B) hR1.1 (by omega) hB1.1 (by omega)
      have q2 := corner_range D (i := R) (j := T) hR1.1 (by omega) hT1.1 (by omega)
      have q3 := corner_range D (i := L) (j := B) hL1.1 (by omega) hB1.1 (by omega)
      have q4 := corner_range D (i := L) (j := T) hL1.1 (by omega) hT1.1 (by omega)
      have b0 : 0 ≤ B * (W + 1) := Int.mul_nonneg hB1.1 (by omega)
      have t0 : 0 ≤ T * (W + 1) := Int.mul_nonneg hT1.1 (by omega)
      have b1 := row_lt (w := W + 1) (h := H + 1) (u := R) (v := B) hR1.2 hR1.1 (by omega) hB1.1
      have b2 := row_lt (w := W + 1) (h := H + 1) (u := L) (v := B) hL1.2 hL1.1 (by omega) hB1.1
      have t1 := row_lt (w := W + 1) (h := H + 1) (u := R) (v := T) hR1.2 hR1.1 (by omega) hT1.1
      have t2 := row_lt (w := W + 1) (h := H + 1) (u := L) (v := T) hL1.2 hL1.1 (by omega) hT1.1
      have d0 : 0 ≤ y * W := Int.mul_nonneg hy0 (by omega)
      have d1 := row_lt (w := W) (h := H) (u := x) (v := y) hx hx0 hy hy0
      have hJ1 := hJ.1
      refine Ev.step (f := fun k => morphology_plane_transform_52.l1 k r s S ((2 * r + 1) * (2 * s + 1)) y T B H y W (x + 1) W H mx_ my_ l W H mx_ my_ (out.set (y * W + x).toNat ((fun x y => decide (2 * around D r s x y > (2 * r + 1) * (2 * s + 1))) x y))) (fun k => ?_) (K2 _ ⟨by rw [List.length_set]; exact hJ.1, fun u v hu0 hu hv0 hv hc => ?_⟩)
      · simp only [morphology_plane_transform_52.l1]
        rw [if_pos hx, w64 (n := W + 1) (by omega), w64 (n := B * (W + 1)) (by omega), w64 (n := T * (W + 1)) (by omega), w64 (n := x + r) (by omega), w64 (n := x + r + 1) (by omega), w64 (n := x - r) (by omega), mn_min, mx_max, hL, hR,
          w64 (n := B * (W + 1) + R) (by omega), w64 (n := T * (W + 1) + R) (by omega), w64 (n := B * (W + 1) + L) (by omega), w64 (n := T * (W + 1) + L) (by omega),
          if_pos (by omega), if_pos (by omega), if_pos (by omega), if_pos (by omega), if_pos (by omega), if_pos (by omega), if_pos (by omega), if_pos (by omega), p1, p2, p3, p4,
          w64 (n := corner D R B - corner D R T) (by omega), w64 (n := corner D R B - corner D R T - corner D L B) (by omega), w64 (n := corner D R B - corner D R T - corner D L B + corner D L T) (by omega), hac,
          w64 (n := y * W) (by omega), w64 (n := y * W + x) (by omega)]
        unfold morphology_majority_1.f
        rw [Option.bind_some, if_pos (by omega), if_pos (by omega), w64 (n := x + 1) (by omega), w64 (n := 2 * around D r s x y) (by omega)]
      · rw [getD_set' _ _ _ _ _ (by omega)]
        have huv := row_nonneg (w := W) (u := u) (v := v) (by omega) hu0 hv0
        by_cases he : (v * W + u).toNat = (y * W + x).toNat
        · obtain ⟨g1, g2⟩ := row_eq (w := W) (u := u) (v := v) (x := x) (y := y) hu0 hu hx0 hx (by omega)
          rw [if_pos he, g1, g2]
        · rw [if_neg he]
          refine hJ.2 u v hu0 hu hv0 hv ?_
          rcases hc with hc | ⟨hc1, hc2⟩
          · exact .inl hc
          · refine .inr ⟨hc1, ?_⟩
            have : u ≠ x := fun hh => he (by rw [hc1, hh])
            omega
    · intro out hJ
      refine Ev.step (f := fun k => morphology_plane_transform_52.l0 k r s S ((2 * r + 1) * (2 * s + 1)) H (y + 1) W H mx_ my_ l W H mx_ my_ out) (fun k => ?_) (K _ ⟨hJ.1, fun u v hu0 hu hv0 hv hc => hJ.2 u v hu0 hu hv0 hv (by omega)⟩)
      simp only [morphology_plane_transform_52.l1]
      rw [if_neg (by omega), w64 (n := y + 1) (by omega)]
  · intro out hI
    refine ev_end (fun k => ?_)
    simp only [morphology_plane_transform_52.l0]
    rw [if_neg (by omega), ← upto_of (w := W) (h := H) (d := false) (l := out) (by omega) hI.1 (fun u v a b c d => hI.2 u v a b c d (by omega))]

theorem upto_rows {α : Type} {w y : Int} (g : Int → Int → α) (hw : 0 ≤ w) (hy : 0 ≤ y) : ∀ n : Nat, (n : Int) ≤ w → upto w g (y * w).toNat ++ ((List.range n).map fun i : Nat => g i y) = upto w g (y * w + n).toNat
  | 0, _ => by simp
  | n + 1, hn => by
    have h0 : 0 ≤ y * w := Int.mul_nonneg hy hw
    have e : (y * w + ((n + 1 : Nat) : Int)).toNat = (y * w + n).toNat + 1 := by omega
    rw [List.range_succ, List.map_append, ← List.append_assoc, upto_rows g hw hy n (by omega), e, upto_push (u := (n : Int)) (v := y) (by omega) (by omega) (by omega)]
    rfl
theorem bitmap_ok {W H w h m n : Int} {l : List Bool} {D : Int → Int → Bool} (T : Tab W H l D) (hw : W = w + 2 * m) (hh : H = h + 2 * n) (hw1 : 1 ≤ w) (hh1 : 1 ≤ h) (hm : 0 ≤ m) (hn : 0 ≤ n) :
    Ev (fun k => morphology_plane_bitmap.f k W H m n l) (w, h, upto w (fun x y => D (x + m) (y + n)) (w * h).toNat) := by
  obtain ⟨w1, w2, h1, h2, hlen, hread, hout⟩ := T
  have hb2 := area_bound (W := W) (H := H) (by omega) (by omega) (by omega) (by omega)
  have hb3 := area_bound (W := w) (H := h) (by omega) (by omega) (by omega) (by omega)
  unfold morphology_plane_bitmap.f
  rw [w64 (n := 2 * n) (by omega), w64 (n := 2 * m) (by omega), w64 (n := H - 2 * n) (by omega), w64 (n := W - 2 * m) (by omega)]
  have e1 : H - 2 * n = h := by omega
  have e2 : W - 2 * m = w := by omega
  rw [e1, e2]
  refine ev_loop (fun k y acc => morphology_plane_bitmap.l0 k h y W H m n l w h acc) 0 h (by omega) (fun y acc => acc = upto w (fun x y => D (x + m) (y + n)) (y * w).toNat) _ ?_ ?_ _ (by simp [upto_zero])
  · intro y acc hy0 hy hI K
    have c0 : 0 ≤ (y + n) * W := Int.mul_nonneg (by omega) (by omega)
    have c1 := row_lt (w := W) (h := H) (u := m + w - 1) (v := y + n) (by omega) (by omega) (by omega) (by omega)
    have yw := row_le (w := w) (h := h) (v := y) (by omega) (by omega)
    have yw0 : 0 ≤ y * w := Int.mul_nonneg hy0 (by omega)
    have hsl : ((l.take ((y + n) * W + m + w).toNat).drop ((y + n) * W + m).toNat).length = w.toNat := by rw [List.length_drop, List.length_take]; omega
    have hseg : (l.take ((y + n) * W + m + w).toNat).drop ((y + n) * W + m).toNat = (List.range w.toNat).map fun i : Nat => (fun x y => D (x + m) (y + n)) i y := by
      refine eq_map_of (d := false) (g := fun x => D (x + m) (y + n)) hsl (fun j hj => ?_)
      rw [getD_take_drop _ _ _ _ _ (by omega)]
      have e : ((y + n) * W + m).toNat + j = ((y + n) * W + ((j : Int) + m)).toNat := by omega
      rw [e]
      exact hread _ _ (by omega) (by omega) (by omega) (by omega)
    have hal : acc.length = (y * w).toNat := by rw [hI, upto_length]
    refine Ev.step (f := fun k => morphology_plane_bitmap.l0 k h (y + 1) W H m n l w h (acc ++ (l.take ((y + n) * W + m + w).toNat).drop ((y + n) * W + m).toNat)) (fun k => ?_) (K _ ?_)
    · simp only [morphology_plane_bitmap.l0]
      rw [if_pos hy, w64 (n := y + n) (by omega), w64 (n := (y + n) * W) (by omega), w64 (n := (y + n) * W + m) (by omega), w64 (n := (y + n) * W + m + w) (by omega), if_pos (by omega), if_pos (by omega), if_pos (by omega), hsl, if_pos (by omega), w64 (n := y + 1) (by omega)]
    · rw [hseg, hI, upto_rows (fun x y => D (x + m) (y + n)) (by omega) hy0 w.toNat (by omega)]
      have e : y * w + ((w.toNat : Nat) : Int) = (y + 1) * w := by rw [Int.add_mul, Int.one_mul]; omega
      rw [e]
  · intro acc hI
    refine ev_end (fun k => ?_)
    simp only [morphology_plane_bitmap.l0]
    rw [if_neg (by omega), hI, Int.mul_comm]
theorem planeOf_ok {w h m n : Int} {l : List Bool} (V : Valid w h l.length) (hm0 : 0 ≤ m) (hm : m ≤ 4096) (hn0 : 0 ≤ n) (hn : n ≤ 4096) :
    ∃ t, Tab (w + 2 * m) (h + 2 * n) t (fun x y => pix false w h l (x - m) (y - n)) ∧ Ev (fun k => morphology_planeOf.f k w h l m n) (w + 2 * m, h + 2 * n, m, n, t) := by
  obtain ⟨G1, G2, G3, G4, G5⟩ := id V.1
  have hl := V.2
  have hb := area_bound (W := w + 2 * m) (H := h + 2 * n) (by omega) (by omega) (by omega) (by omega)
  let g : Int → Int → Bool := fun x y => pix false w h l (x - m) (y - n)
  refine ⟨upto (w + 2 * m) g ((w + 2 * m) * (h + 2 * n)).toNat, ?_, ?_⟩
  · have T := tab_upto (W := w + 2 * m) (H := h + 2 * n) (by omega) (by omega) (by omega) (by omega) g
    have e : fence (w + 2 * m) (h + 2 * n) g = g := by
      funext x y
      unfold fence
      split
      · rfl
      · exact (pix_out (by omega)).symm
    rw [e] at T
    exact T
  · unfold morphology_planeOf.f
    rw [w64 (n := 2 * m) (by omega), w64 (n := 2 * n) (by omega), w64 (n := w + 2 * m) (by omega), w64 (n := h + 2 * n) (by omega), w64 (n := (w + 2 * m) * (h + 2 * n)) (by omega)]
    simp only [if_pos (show 0 ≤ (w + 2 * m) * (h + 2 * n) by omega), if_pos (show ((w + 2 * m) * (h + 2 * n)).toNat ≤ 281474976710656 by omega)]
    generalize hW : w + 2 * m = W at hb
    generalize hH : h + 2 * n = H at hb
    refine ev_loop (fun k y out => morphology_planeOf.l0 k m n h y w h l W H m n out) 0 h (by omega)
      (fun y out => (out.length : Int) = W * H ∧ ∀ u v, 0 ≤ u → u < W → 0 ≤ v → v < H → out.getD (v * W + u).toNat false = if v < y + n then g u v else false) _ ?_ ?_ _ ⟨by rw [List.length_replicate]; omega, fun u v hu0 hu hv0 hv => ?_⟩
    · rintro y out hy0 hy ⟨ho, hI⟩ K
      have c0 : 0 ≤ (y + n) * W := Int.mul_nonneg (by omega) (by omega)
      have c1 := row_lt (w := W) (h := H) (u := m + w - 1) (v := y + n) (by omega) (by omega) (by omega) (by omega)
      have d0 : 0 ≤ y * w := Int.mul_nonneg hy0 (by omega)
      have d1 := row_lt (w := w) (h := h) (u := w - 1) (v := y) (by omega) (by omega) hy hy0
      have e1 : (y + 1) * w = y * w + w := by rw [Int.add_mul, Int.one_mul]
      have hsl : ((l.take (y * w + w).toNat).drop (y * w).toNat).length = w.toNat := by rw [List.length_drop, List.length_take]; omega
      refine Ev.step (f := fun k => morphology_planeOf.l0 k m n h (y + 1) w h l W H m n (copyIn out ((y + n) * W + m).toNat (out.length - ((y + n) * W + m).toNat) ((l.take (y * w + w).toNat).drop (y * w).toNat))) (fun k => ?_) (K _ ⟨?_, fun u v hu0 hu hv0 hv => ?_⟩)
      · simp only [morphology_planeOf.l0]
        rw [if_pos hy, w64 (n := y + n) (by omega), w64 (n := (y + n) * W) (by omega), w64 (n := (y + n) * W + m) (by omega), if_pos (by omega), if_pos (by omega), w64 (n := y * w) (by omega), w64 (n := y + 1) (by omega), e1, w64 (n := y * w + w) (by omega), if_pos (by omega), if_pos (by omega), if_pos (by omega)]
      · rw [copyIn_length _ _ _ _ (by omega)]; exact ho
      · rw [copyRow_getD (W := W) (H := H) (y' := y + n) (c := m) (n := w) ho hm0 (by omega) (by omega) (by rw [hsl]; omega) (by omega) (by omega) (by omega) (by rw [hsl]; omega) hu0 hu hv0 hv, hI u v hu0 hu hv0 hv]
        by_cases hc : v = y + n ∧ m ≤ u ∧ u < m + w
        · rw [if_pos hc, if_pos (by omega), getD_take_drop _ _ _ _ _ (by omega)]
          show _ = pix false w h l (u - m) (v - n)
          rw [pix_in (by omega) (by omega) (by omega) (by omega)]
          have e : (y * w).toNat + (u - m).toNat = ((v - n) * w + (u - m)).toNat := by
            have : v - n = y := by omega
            rw [this]
            omega
          rw [e]
        · rw [if_neg hc]
          by_cases hv' : v < y + n
          · rw [if_pos hv', if_pos (by omega)]
          · rw [if_neg hv']
            by_cases hv2 : v < y + 1 + n
            · rw [if_pos hv2]
              exact (pix_out (by omega)).symm
            · rw [if_neg hv2]
    · rintro out ⟨ho, hI⟩
      refine ev_end (fun k => ?_)
      simp only [morphology_planeOf.l0]
      rw [if_neg (by omega), ← upto_of (w := W) (h := H) (d := false) (l := out) (by omega) ho (g := g) (fun u v a b c d => ?_)]
      rw [hI u v a b c d]
      by_cases hv : v < h + n
      · rw [if_pos hv]
      · rw [if_neg hv]
        exact (pix_out (by omega)).symm
    · rw [getD_replicate]
      by_cases hv' : v < 0 + n
      · rw [if_pos hv']
        exact (pix_out (by omega)).symm
      · rw [if_neg hv']
end Go.Proofs.Ytkakiblnhgpdnaa.Pure
