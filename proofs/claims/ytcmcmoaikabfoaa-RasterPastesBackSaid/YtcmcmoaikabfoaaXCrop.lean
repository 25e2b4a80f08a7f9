/-
Crop answers the table of the pixels of the box. Conditions: as each theorem says.
-/
import Derived.Test.YtcmcmoaikabfoaaXShared
import Derived.Test.YtcmcmoaikabfoaaPRx4
namespace Go.Proofs.Ytcmcmoaikabfoaa.Pure
set_option linter.unusedVariables false
set_option linter.unusedSimpArgs false
open Go.RowKit Go.Proofs.Ytcmcmoaikabfoaa.PR Go.Proofs.YtcmcmoaikabfoaaW.PrintWords Go.Proofs.YtcmcmoaikabfoaaW.PrintLast Go.Proofs.YtcmcmoaikabfoaaW.PrintMore Go.Proofs.Ytcmcmoaikabfoaa.XWords Go.Proofs.Ytcmcmoaikabfoaa.XPure

/-- What Crop answers. -/
def cropOf (w h : Int) (l : List Bool) (X Y W H : Int) : Int × Int × List Bool × Int := (W, H, upto W (fun u v => pix false w h l (X + u) (Y + v)) (W * H).toNat, 0)

theorem crop_ok {w h : Int} {l : List Bool} {X Y W H : Int} (V : Valid w h l.length) (F : Fits W H) : Ev (fun k => raster_Crop.f k w h l X Y W H) (cropOf w h l X Y W H) := by
  unfold raster_Crop.f
  rw [check_eq, new_eq, if_pos V, if_pos F]
  simp only [Option.bind_some, if_true]
  obtain ⟨⟨F1, F2, F3, F4, F5⟩, _⟩ := id V
  obtain ⟨G1, G2, G3, G4, G5⟩ := id F
  have hWH := F.pos
  obtain ⟨f, t, e1, ⟨s1, s2⟩, s3, s4⟩ := shared_eq (a := X) G1 G2 F1 F2
  obtain ⟨g, b, e2, ⟨r1, r2⟩, r3, r4⟩ := shared_eq (a := Y) G3 G4 F3 F4
  rw [e1, e2]
  simp only [Option.bind_some]
  by_cases hempty : f < t ∧ g < b
  · obtain ⟨hft, hgb⟩ := hempty
    obtain ⟨p1, p2, p3, p4⟩ := s2 hft
    obtain ⟨q1, q2, q3, q4⟩ := r2 hgb
    refine ev_loop (fun k y out => raster_Crop.l0 k f t b y w h l X Y W H W H out) g b (by omega) (fun y out => (out.length : Int) = W * H ∧ ∀ u v, 0 ≤ u → u < W → 0 ≤ v → v < H → out.getD (v * W + u).toNat false = if Y + v < y then pix false w h l (X + u) (Y + v) else false) _ ?_ ?_ _ ?_
    · intro y out hy hyb ⟨hl, hI⟩ K
      obtain ⟨z1, z2, z3, z4, z5, z6, z7⟩ := V.spot (x := f) (y := y) (by omega) (by omega) (by omega) (by omega)
      obtain ⟨-, y2, -, -, -, -, -⟩ := V.spot (x := t - 1) (y := y) (by omega) (by omega) (by omega) (by omega)
      have a1 : wrap64 (y - Y) = y - Y := w64 (by omega)
      have a2 := row_lt (w := W) (h := H) (u := f - X) (v := y - Y) (by omega) (by omega) (by omega) (by omega)
      have a3 : 0 ≤ (y - Y) * W := Int.mul_nonneg (by omega) (by omega)
      have a4 := row_lt (w := W) (h := H) (u := t - 1 - X) (v := y - Y) (by omega) (by omega) (by omega) (by omega)
      have a5 : wrap64 ((y - Y) * W) = (y - Y) * W := w64 (by omega)
      have a6 : wrap64 ((y - Y) * W + f) = (y - Y) * W + f := w64 (by omega)
      have a7 : wrap64 ((y - Y) * W + f - X) = (y - Y) * W + f - X := w64 (by omega)
      have a8 : wrap64 (y * w + t) = y * w + t := w64 (by omega)
      have a9 : wrap64 (y + 1) = y + 1 := w64 (by omega)
      refine Ev.step (f := fun k => raster_Crop.l0 k f t b (y + 1) w h l X Y W H W H (copyIn out ((y - Y) * W + f - X).toNat (out.length - ((y - Y) * W + f - X).toNat) ((l.take (y * w + t).toNat).drop (y * w + f).toNat))) (fun k => ?_) (K _ ?_)
      · simp only [raster_Crop.l0, a1, a5, a6, a7, z1, z2, a8, a9]
        rw [if_pos hyb, if_pos hft, if_pos (by omega), if_pos (by omega), if_pos (by omega), if_pos (by omega), if_pos (by omega)]
      · have hsl : (((l.take (y * w + t).toNat).drop (y * w + f).toNat).length : Int) = t - f := by
          rw [List.length_drop, List.length_take]
          omega
        constructor
        · rw [copyIn_length _ _ _ _ (by omega)]
          exact hl
        · intro u v hu0 hu hv0 hv
          rw [copyRow_getD (W := W) (H := H) (y' := y - Y) (c := f - X) (n := t - f) hl (by omega) (by omega) (by omega) hsl (by omega) (by omega) (by omega) (by omega) hu0 hu hv0 hv, hI u v hu0 hu hv0 hv]
          by_cases hv' : v = y - Y
          · subst hv'
            rw [if_pos (show Y + (y - Y) < y + 1 by omega), if_neg (show ¬ (Y + (y - Y) < y) by omega)]
            by_cases hin : f - X ≤ u ∧ u < f - X + (t - f)
            · rw [if_pos ⟨rfl, hin⟩, getD_take_drop _ _ _ _ _ (by omega), pix_in (by omega) (by omega) (by omega) (by omega)]
              congr 1
              have : Y + (y - Y) = y := by omega
              rw [this]
              omega
            · rw [if_neg (fun hh => hin hh.2), pix_out]
              intro hh
              have := s1 (X + u) (by omega) (by omega) (by omega) (by omega)
              omega
          · rw [if_neg (fun hh => hv' hh.1)]
            by_cases hlt : Y + v < y
            · rw [if_pos hlt, if_pos (by omega)]
            · rw [if_neg hlt, if_neg (by omega)]
    · intro out ⟨hl, hI⟩
      refine ev_end (fun k => ?_)
      simp only [raster_Crop.l0]
      rw [if_neg (by omega)]
      unfold cropOf
      rw [upto_of (w := W) (h := H) (d := false) (by omega) hl]
      intro u v hu0 hu hv0 hv
      rw [hI u v hu0 hu hv0 hv]
      by_cases hlt : Y + v < b
      · rw [if_pos hlt]
      · rw [if_neg hlt, pix_out]
        intro hh
        have := r1 (Y + v) (by omega) (by omega) (by omega) (by omega)
        omega
    · refine ⟨by rw [List.length_replicate]; omega, fun u v hu0 hu hv0 hv => ?_⟩
      rw [getD_replicate]
      by_cases hlt : Y + v < g
      · rw [if_pos hlt, pix_out]
        intro hh
        have := r1 (Y + v) (by omega) (by omega) (by omega) (by omega)
        omega
      · rw [if_neg hlt]
  · refine ev_end (fun k => ?_)
    have hout : List.replicate (W * H).toNat false = upto W (fun u v => pix false w h l (X + u) (Y + v)) (W * H).toNat := by
      refine upto_of (w := W) (h := H) (d := false) (by omega) (by rw [List.length_replicate]; omega) (fun u v hu0 hu hv0 hv => ?_)
      rw [getD_replicate, pix_out]
      intro hh
      have := s1 (X + u) (by omega) (by omega) (by omega) (by omega)
      have := r1 (Y + v) (by omega) (by omega) (by omega) (by omega)
      omega
    simp only [raster_Crop.l0]
    unfold cropOf
    rw [← hout]
    by_cases hgb : g < b
    · rw [if_pos hgb, if_neg (by omega)]
    · rw [if_neg hgb]

end Go.Proofs.Ytcmcmoaikabfoaa.Pure
