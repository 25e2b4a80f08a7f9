/-
Crop and its reference answer the table of the pixels of the box. Conditions: as each theorem says.
-/
import Derived.Test.YtcmcmoaikabfoaaXBase
namespace Go.Proofs.Ytcmcmoaikabfoaa.Pure
set_option linter.unusedVariables false
set_option linter.unusedSimpArgs false
open Go.RowKit Go.Proofs.Ytcmcmoaikabfoaa.PR Go.Proofs.YtcmcmoaikabfoaaW.PrintWords Go.Proofs.YtcmcmoaikabfoaaW.PrintLast Go.Proofs.YtcmcmoaikabfoaaW.PrintMore Go.Proofs.Ytcmcmoaikabfoaa.XWords Go.Proofs.Ytcmcmoaikabfoaa.XPure

/-- The part of a range of n numbers from a on that lies in 0 .. most - 1. -/
theorem shared_eq {a n most : Int} (h1 : 1 ≤ n) (h2 : n ≤ 4096) (h3 : 1 ≤ most) (h4 : most ≤ 4096) :
    ∃ f t, raster_shared.f a n most = some (f, t) ∧ ((∀ x, 0 ≤ x → x < most → a ≤ x → x < a + n → f ≤ x ∧ x < t) ∧ (f < t → 0 ≤ f ∧ t ≤ most ∧ a ≤ f ∧ t ≤ a + n)) ∧ 0 ≤ f ∧ t ≤ most := by
  unfold raster_shared.f mx mn
  rw [w64 (n := -n) (by omega)]
  by_cases ha : a ≥ most
  · rw [if_pos ha]
    exact ⟨0, 0, rfl, ⟨fun x _ _ _ _ => by omega, fun _ => by omega⟩, by omega, by omega⟩
  · by_cases hb : a ≤ -n
    · rw [if_neg ha, if_pos hb]
      exact ⟨0, 0, rfl, ⟨fun x _ _ _ _ => by omega, fun _ => by omega⟩, by omega, by omega⟩
    · rw [if_neg ha, if_neg hb, w64 (n := a + n) (by omega)]
      refine ⟨_, _, rfl, ⟨fun x _ _ _ _ => ?_, fun _ => ?_⟩, ?_, ?_⟩
      · split <;> split <;> omega
      · split <;> split <;> omega
      · split <;> omega
      · split <;> omega

/-- The rows of a table before and behind one. -/
theorem row_before {w u v y c : Int} (hw : 0 ≤ w) (hu : u < w) (hc : 0 ≤ c) (h : v < y) : v * w + u < y * w + c := by
  have h1 : (v + 1) * w ≤ y * w := Int.mul_le_mul_of_nonneg_right (by omega) hw
  rw [Int.add_mul, Int.one_mul] at h1
  omega

/-- A row laid into a table. -/
theorem copyRow_getD {α : Type} {d : α} {W H : Int} {out : List α} {y' c n : Int} {src : List α} (hl : (out.length : Int) = W * H) (hc : 0 ≤ c) (hn : c + n ≤ W) (hn0 : 0 ≤ n) (hs : (src.length : Int) = n)
    (hy0 : 0 ≤ y') (hy : y' < H) {off : Nat} (ho : (off : Int) = y' * W + c) {m : Nat} (hm : src.length ≤ m) {u v : Int} (hu0 : 0 ≤ u) (hu : u < W) (hv0 : 0 ≤ v) (hv : v < H) :
    (copyIn out off m src).getD (v * W + u).toNat d = if v = y' ∧ c ≤ u ∧ u < c + n then src.getD (u - c).toNat d else out.getD (v * W + u).toNat d := by
  unfold copyIn
  rw [List.take_of_length_le hm]
  have hW : 0 ≤ W := by omega
  have h1 := row_lt (w := W) (h := H) (u := u) (v := v) hu hu0 hv hv0
  have h2 := row_nonneg (w := W) (u := u) (v := v) hW hu0 hv0
  have h3 : y' * W + W ≤ W * H := by
    have := row_lt (w := W) (h := H) (u := W - 1) (v := y') (by omega) (by omega) hy hy0
    omega
  have h4 : ((v * W + u).toNat : Int) = v * W + u := Int.toNat_of_nonneg h2
  rw [getD_splice _ _ _ _ (by omega)]
  by_cases hv' : v = y'
  · subst hv'
    by_cases hcu : c ≤ u ∧ u < c + n
    · rw [if_pos (by omega), if_pos ⟨rfl, hcu⟩]
      congr 1
      omega
    · rw [if_neg (by omega), if_neg (by omega)]
  · have hne : ¬ (v = y' ∧ c ≤ u ∧ u < c + n) := fun hh => hv' hh.1
    rw [if_neg hne]
    rcases Int.lt_or_gt_of_ne hv' with hlt | hgt
    · have := row_before (c := 0) hW hu (Int.le_refl 0) hlt
      rw [if_neg (by omega)]
    · have : y' * W + (c + n - 1) < v * W + u ∨ n = 0 := by
        by_cases hn1 : n = 0
        · exact .inr hn1
        · exact .inl (row_before (w := W) (u := c + n - 1) (v := y') (y := v) (c := u) hW (by omega) hu0 hgt)
      rw [if_neg]
      rcases this with h | h
      · omega
      · omega

/-- What Crop answers. -/
def cropOf (w h : Int) (l : List Bool) (X Y W H : Int) : Int × Int × List Bool × Int := (W, H, upto W (fun u v => pix false w h l (X + u) (Y + v)) (W * H).toNat, 0)

theorem crop_ok {w h : Int} {l : List Bool} {X Y W H : Int} (V : Valid w h l.length) (F : Fits W H) : Ev (fun k => raster_Crop.f k w h l X Y W H) (cropOf w h l X Y W H) := by
  unfold raster_Crop.f
  rw [check_eq, new_eq, if_pos V, if_pos F]
  simp only [Option.bind_some, if_true]
  obtain ⟨⟨F1, F2, F3, F4, F5⟩, _⟩ := id V
  obtain ⟨G1, G2, G3, G4, G5⟩ := id F
  have hWH := F.pos
  obtain ⟨f, t, e1, ⟨s1, s2⟩, s3, s4⟩ := shared_eq (a := X) G1 G2 F1 F2
  obtain ⟨g, b, e2, ⟨r1, r2⟩, r3, r4⟩ := shared_eq (a := Y) G3 G4 F3 F4
  rw [e1, e2]
  simp only [Option.bind_some]
  by_cases hempty : f < t ∧ g < b
  · obtain ⟨hft, hgb⟩ := hempty
    obtain ⟨p1, p2, p3, p4⟩ := s2 hft
    obtain ⟨q1, q2, q3, q4⟩ := r2 hgb
    refine ev_loop (fun k y out => raster_Crop.l0 k f t b y w h l X Y W H W H out) g b (by omega) (fun y out => (out.length : Int) = W * H ∧ ∀ u v, 0 ≤ u → u < W → 0 ≤ v → v < H → out.getD (v * W + u).toNat false = if Y + v < y then pix false w h l (X + u) (Y + v) else false) _ ?_ ?_ _ ?_
    · intro y out hy hyb ⟨hl, hI⟩ K
      obtain ⟨z1, z2, z3, z4, z5, z6, z7⟩ := V.spot (x := f) (y := y) (by omega) (by omega) (by omega) (by omega)
      obtain ⟨-, y2, -, -, -, -, -⟩ := V.spot (x := t - 1) (y := y) (by omega) (by omega) (by omega) (by omega)
      have a1 : wrap64 (y - Y) = y - Y := w64 (by omega)
      have a2 := row_lt (w := W) (h := H) (u := f - X) (v := y - Y) (by omega) (by omega) (by omega) (by omega)
      have a3 : 0 ≤ (y - Y) * W := Int.mul_nonneg (by omega) (by omega)
      have a4 := row_lt (w := W) (h := H) (u := t - 1 - X) (v := y - Y) (by omega) (by omega) (by omega) (by omega)
      have a5 : wrap64 ((y - Y) * W) = (y - Y) * W := w64 (by omega)
      have a6 : wrap64 ((y - Y) * W + f) = (y - Y) * W + f := w64 (by omega)
      have a7 : wrap64 ((y - Y) * W + f - X) = (y - Y) * W + f - X := w64 (by omega)
      have a8 : wrap64 (y * w + t) = y * w + t := w64 (by omega)
      have a9 : wrap64 (y + 1) = y + 1 := w64 (by omega)
      refine Ev.step (f := fun k => raster_Crop.l0 k f t b (y + 1) w h l X Y W H W H (copyIn out ((y - Y) * W + f - X).toNat (out.length - ((y - Y) * W + f - X).toNat) ((l.take (y * w + t).toNat).drop (y * w + f).toNat))) (fun k => ?_) (K _ ?_)
      · simp only [raster_Crop.l0, a1, a5, a6, a7, z1, z2, a8, a9]
        rw [if_pos hyb, if_pos hft, if_pos (by omega), if_pos (by omega), if_pos (by omega), if_pos (by omega), if_pos (by omega)]
      · have hsl : (((l.take (y * w + t).toNat).drop (y * w + f).toNat).length : Int) = t - f := by
          rw [List.length_drop, List.length_take]
          omega
        constructor
        · rw [copyIn_length _ _ _ _ (by omega)]
          exact hl
        · intro u v hu0 hu hv0 hv
          rw [copyRow_getD (W := W) (H := H) (y' := y - Y) (c := f - X) (n := t - f) hl (by omega) (by omega) (by omega) hsl (by omega) (by omega) (by omega) (by omega) hu0 hu hv0 hv, hI u v hu0 hu hv0 hv]
          by_cases hv' : v = y - Y
          · subst hv'
            rw [if_pos (show Y + (y - Y) < y + 1 by omega), if_neg (show ¬ (Y + (y - Y) < y) by omega)]
            by_cases hin : f - X ≤ u ∧ u < f - X + (t - f)
            · rw [if_pos ⟨rfl, hin⟩, getD_take_drop _ _ _ _ _ (by omega), pix_in (by omega) (by omega) (by omega) (by omega)]
              congr 1
              have : Y + (y - Y) = y := by omega
              rw [this]
              omega
            · rw [if_neg (fun hh => hin hh.2), pix_out]
              intro hh
              have := s1 (X + u) (by omega) (by omega) (by omega) (by omega)
              omega
          · rw [if_neg (fun hh => hv' hh.1)]
            by_cases hlt : Y + v < y
            · rw [if_pos hlt, if_pos (by omega)]
            · rw [if_neg hlt, if_neg (by omega)]
    · intro out ⟨hl, hI⟩
      refine ev_end (fun k => ?_)
      simp only [raster_Crop.l0]
      rw [if_neg (by omega)]
      unfold cropOf
      rw [upto_of (w := W) (h := H) (d := false) (by omega) hl]
      intro u v hu0 hu hv0 hv
      rw [hI u v hu0 hu hv0 hv]
      by_cases hlt : Y + v < b
      · rw [if_pos hlt]
      · rw [if_neg hlt, pix_out]
        intro hh
        have := r1 (Y + v) (by omega) (by omega) (by omega) (by omega)
        omega
    · refine ⟨by rw [List.length_replicate]; omega, fun u v hu0 hu hv0 hv => ?_⟩
      rw [getD_replicate]
      by_cases hlt : Y + v < g
      · rw [if_pos hlt, pix_out]
        intro hh
        have := r1 (Y + v) (by omega) (by omega) (by omega) (by omega)
        omega
      · rw [if_neg hlt]
  · refine ev_end (fun k => ?_)
    have hout : List.replicate (W * H).toNat false = upto W (fun u v => pix false w h l (X + u) (Y + v)) (W * H).toNat := by
      refine upto_of (w := W) (h := H) (d := false) (by omega) (by rw [List.length_replicate]; omega) (fun u v hu0 hu hv0 hv => ?_)
      rw [getD_replicate, pix_out]
      intro hh
      have := s1 (X + u) (by omega) (by omega) (by omega) (by omega)
      have := r1 (Y + v) (by omega) (by omega) (by omega) (by omega)
      omega
    simp only [raster_Crop.l0]
    unfold cropOf
    rw [← hout]
    by_cases hgb : g < b
    · rw [if_pos hgb, if_neg (by omega)]
    · rw [if_neg hgb]

theorem near_eq (X : Int) : barscanref31_near.f X = some (mx (-10000) (mn 10000 X)) := rfl
theorem near_pix (X u : Int) (h0 : 0 ≤ u) (h1 : u < 4096) : (mx (-10000) (mn 10000 X) = X ∧ -10000 ≤ X ∧ X ≤ 10000) ∨ (¬ (0 ≤ X + u ∧ X + u < 4096) ∧ ¬ (0 ≤ mx (-10000) (mn 10000 X) + u ∧ mx (-10000) (mn 10000 X) + u < 4096) ∧ -10000 ≤ mx (-10000) (mn 10000 X) ∧ mx (-10000) (mn 10000 X) ≤ 10000) := by
  unfold mx mn
  by_cases h2 : X < 10000
  · rw [if_pos h2]
    by_cases h3 : -10000 < X
    · rw [if_pos h3]; left; omega
    · rw [if_neg h3]
      by_cases h4 : X = -10000
      · left; omega
      · right; omega
  · rw [if_neg h2, if_pos (by decide)]
    by_cases h4 : X = 10000
    · left; omega
    · right; omega
theorem near_both (w h : Int) (l : List Bool) (F : Fits w h) (X Y u v : Int) (hu0 : 0 ≤ u) (hu : u < 4096) (hv0 : 0 ≤ v) (hv : v < 4096) :
    pix false w h l (wrap64 (mx (-10000) (mn 10000 X) + u)) (wrap64 (mx (-10000) (mn 10000 Y) + v)) = pix false w h l (X + u) (Y + v) := by
  obtain ⟨F1, F2, F3, F4, _⟩ := F
  have hx := near_pix X u hu0 hu
  have hy := near_pix Y v hv0 hv
  have ex : wrap64 (mx (-10000) (mn 10000 X) + u) = mx (-10000) (mn 10000 X) + u := w64 (by omega)
  have ey : wrap64 (mx (-10000) (mn 10000 Y) + v) = mx (-10000) (mn 10000 Y) + v := w64 (by omega)
  rw [ex, ey]
  rcases hx with ⟨hx, _⟩ | hx
  · rw [hx]
    rcases hy with ⟨hy, _⟩ | hy
    · rw [hy]
    · rw [pix_out (by omega), pix_out (by omega)]
  · rw [pix_out (by omega), pix_out (by omega)]

theorem refCrop_ok {w h : Int} {l : List Bool} {X Y W H : Int} (V : Valid w h l.length) (F : Fits W H) : Ev (fun k => barscanref31_Crop.f k w h l X Y W H) (cropOf w h l X Y W H) := by
  unfold barscanref31_Crop.f
  rw [valid_eq, fits_eq, decide_eq_true V, decide_eq_true F]
  simp only [Option.bind_some, if_true]
  obtain ⟨G1, G2, G3, G4, G5⟩ := id F
  unfold cropOf
  refine ev_table W H (by omega) (by omega) (fun u v => pix false w h l (X + u) (Y + v)) (fun k v acc => barscanref31_Crop.l0 k v w h l X Y W H W H acc) (fun k v u acc => barscanref31_Crop.l1 k v u w h l X Y W H W H acc) (fun acc => (W, H, acc, 0)) ?_ ?_ ?_ ?_
  · intro k v acc hv0 hv
    simp only [barscanref31_Crop.l0]
    rw [if_pos hv]
  · intro k v u acc hv0 hv hu0 hu hl
    have := row_lt (w := W) (h := H) hu hu0 hv hv0
    simp only [barscanref31_Crop.l1, near_eq, Option.bind_some, refAt_eq, if_pos V]
    rw [if_pos hu, near_both w h l V.1 X Y u v hu0 (by omega) hv0 (by omega), if_pos (by omega), w64 (by omega)]
  · intro k v acc hv0 hv
    simp only [barscanref31_Crop.l1]
    rw [if_neg (by omega), w64 (by omega)]
  · intro k acc
    simp only [barscanref31_Crop.l0]
    rw [if_neg (by omega)]
theorem crop_bad {w h : Int} {l : List Bool} {X Y W H : Int} (V : ¬ (Valid w h l.length ∧ Fits W H)) : ∃ e : Int, (∀ k, raster_Crop.f k w h l X Y W H = some (0, 0, [], e)) ∧ (∀ k, barscanref31_Crop.f k w h l X Y W H = some (0, 0, [], e)) := by
  by_cases h1 : Valid w h l.length
  · have F : ¬ Fits W H := fun F => V ⟨h1, F⟩
    refine ⟨23, fun k => ?_, fun k => ?_⟩
    · unfold raster_Crop.f
      rw [check_eq, new_eq, if_pos h1, if_neg F]
      rfl
    · unfold barscanref31_Crop.f
      rw [valid_eq, fits_eq, decide_eq_true h1, decide_eq_false F]
      rfl
  · refine ⟨1, fun k => ?_, fun k => ?_⟩
    · unfold raster_Crop.f
      rw [check_eq, if_neg h1]
      rfl
    · unfold barscanref31_Crop.f
      rw [valid_eq, decide_eq_false h1]
      rfl
end Go.Proofs.Ytcmcmoaikabfoaa.Pure
