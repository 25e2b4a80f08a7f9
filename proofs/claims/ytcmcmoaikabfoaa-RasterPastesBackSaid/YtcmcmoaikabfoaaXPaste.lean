/-
Paste and its reference answer the table in which the part covers its box. Conditions: as each theorem says.
-/
import Derived.Test.YtcmcmoaikabfoaaXShared
import Derived.Test.YtcmcmoaikabfoaaPRx17
namespace Go.Proofs.Ytcmcmoaikabfoaa.Pure
set_option linter.unusedVariables false
set_option linter.unusedSimpArgs false
open Go.RowKit Go.Proofs.Ytcmcmoaikabfoaa.PR Go.Proofs.YtcmcmoaikabfoaaW.PrintWords Go.Proofs.YtcmcmoaikabfoaaW.PrintLast Go.Proofs.YtcmcmoaikabfoaaW.PrintMore Go.Proofs.Ytcmcmoaikabfoaa.XWords Go.Proofs.Ytcmcmoaikabfoaa.XPure

theorem copyIn_take {α : Type} (xs : List α) (off m : Nat) (ys : List α) : copyIn xs off m ys = copyIn xs off m (ys.take m) := by
  unfold copyIn
  rw [List.take_take, Nat.min_self]
theorem getD_drop_take {α : Type} (xs : List α) (a m : Nat) (d : α) (j : Nat) (h : j < m) : ((xs.drop a).take m).getD j d = xs.getD (a + j) d := by
  simp only [List.getD_eq_getElem?_getD, List.getElem?_take, if_pos h, List.getElem?_drop]
theorem clone_eq {w h : Int} {l : List Bool} (hl : l.length ≤ 4194304) : raster_clone.f w h l = some (w, h, l) := by
  unfold raster_clone.f slices_Clone_bool_bool.f
  rw [if_pos (by omega)]
  rfl

/-- A pixel of the pasted bitmap. -/
def pasteG (w h : Int) (l : List Bool) (W H : Int) (p : List Bool) (X Y u v : Int) : Bool := if X ≤ u ∧ u < X + W ∧ Y ≤ v ∧ v < Y + H then pix false W H p (u - X) (v - Y) else pix false w h l u v
/-- What Paste answers. -/
def pasteOf (w h : Int) (l : List Bool) (W H : Int) (p : List Bool) (X Y : Int) : Int × Int × List Bool × Int := (w, h, upto w (pasteG w h l W H p X Y) (w * h).toNat, 0)

theorem paste_ok {w h : Int} {l : List Bool} {W H : Int} {p : List Bool} {X Y : Int} (V : Valid w h l.length) (P : Valid W H p.length) : Ev (fun k => raster_Paste.f k w h l W H p X Y) (pasteOf w h l W H p X Y) := by
  unfold raster_Paste.f
  rw [check_eq, check_eq, if_pos V, if_pos P]
  simp only [Option.bind_some, if_true]
  obtain ⟨⟨F1, F2, F3, F4, F5⟩, hl⟩ := id V
  obtain ⟨⟨G1, G2, G3, G4, G5⟩, hp⟩ := id P
  obtain ⟨f, t, e1, ⟨s1, s2⟩, s3, s4⟩ := shared_eq (a := X) G1 G2 F1 F2
  obtain ⟨g, b, e2, ⟨r1, r2⟩, r3, r4⟩ := shared_eq (a := Y) G3 G4 F3 F4
  refine Ev.step (f := fun k => raster_Paste.l0 k X Y f t b g w h l W H p w h l) (fun k => ?_) ?_
  · simp only [raster_Paste.j0]
    rw [clone_eq (by omega), e1, e2]
    rfl
  by_cases hempty : f < t ∧ g < b
  · obtain ⟨hft, hgb⟩ := hempty
    obtain ⟨p1, p2, p3, p4⟩ := s2 hft
    obtain ⟨q1, q2, q3, q4⟩ := r2 hgb
    refine ev_loop (fun k y out => raster_Paste.l0 k X Y f t b y w h l W H p w h out) g b (by omega) (fun y out => (out.length : Int) = w * h ∧ ∀ u v, 0 ≤ u → u < w → 0 ≤ v → v < h → out.getD (v * w + u).toNat false = if v < y then pasteG w h l W H p X Y u v else pix false w h l u v) _ ?_ ?_ _ ?_
    · intro y out hy hyb ⟨hol, hI⟩ K
      obtain ⟨z1, z2, z3, z4, z5, z6, z7⟩ := V.spot (x := f) (y := y) (by omega) (by omega) (by omega) (by omega)
      obtain ⟨x1, x2, x3, x4, x5, x6, x7⟩ := P.spot (x := f - X) (y := y - Y) (by omega) (by omega) (by omega) (by omega)
      obtain ⟨-, y2, -, -, y5, -, -⟩ := P.spot (x := t - 1 - X) (y := y - Y) (by omega) (by omega) (by omega) (by omega)
      have a1 : wrap64 (y - Y) = y - Y := w64 (by omega)
      have a6 : wrap64 ((y - Y) * W + f) = (y - Y) * W + f := w64 (by omega)
      have a7 : wrap64 ((y - Y) * W + f - X) = (y - Y) * W + f - X := w64 (by omega)
      have a8 : wrap64 (y * w + t) = y * w + t := w64 (by omega)
      have a9 : wrap64 (y + 1) = y + 1 := w64 (by omega)
      refine Ev.step (f := fun k => raster_Paste.l0 k X Y f t b (y + 1) w h l W H p w h (copyIn out (y * w + f).toNat ((y * w + t).toNat - (y * w + f).toNat) (p.drop ((y - Y) * W + f - X).toNat))) (fun k => ?_) (K _ ?_)
      · simp only [raster_Paste.l0, z1, z2, a1, x1, a6, a7, a8, a9]
        rw [if_pos hyb, if_pos hft, if_pos (by omega), if_pos (by omega), if_pos (by omega), if_pos (by omega), if_pos (by omega)]
      · rw [copyIn_take]
        have hm : ((y * w + t).toNat - (y * w + f).toNat : Nat) = (t - f).toNat := by omega
        rw [hm]
        have hsl : (((p.drop ((y - Y) * W + f - X).toNat).take (t - f).toNat).length : Int) = t - f := by
          rw [List.length_take, List.length_drop]
          omega
        constructor
        · rw [copyIn_length _ _ _ _ (by omega)]
          exact hol
        · intro u v hu0 hu hv0 hv
          rw [copyRow_getD (W := w) (H := h) (y' := y) (c := f) (n := t - f) hol (by omega) (by omega) (by omega) hsl (by omega) (by omega) (by omega) (by omega) hu0 hu hv0 hv, hI u v hu0 hu hv0 hv]
          by_cases hv' : v = y
          · subst hv'
            rw [if_pos (show v < v + 1 by omega), if_neg (show ¬ (v < v) by omega)]
            unfold pasteG
            by_cases hin : f ≤ u ∧ u < f + (t - f)
            · have hh : X ≤ u ∧ u < X + W ∧ Y ≤ v ∧ v < Y + H := by omega
              rw [if_pos ⟨rfl, hin⟩, getD_drop_take _ _ _ _ _ (by omega), if_pos hh, pix_in (by omega) (by omega) (by omega) (by omega)]
              congr 1
              omega
            · have hne : ¬ (v = v ∧ f ≤ u ∧ u < f + (t - f)) := fun hh => hin hh.2
              have hn2 : ¬ (X ≤ u ∧ u < X + W ∧ Y ≤ v ∧ v < Y + H) := fun hh => by
                have := s1 u (by omega) (by omega) (by omega) (by omega)
                omega
              rw [if_neg hne, if_neg hn2]
          · have hne : ¬ (v = y ∧ f ≤ u ∧ u < f + (t - f)) := fun hh => hv' hh.1
            rw [if_neg hne]
            by_cases hlt : v < y
            · rw [if_pos hlt, if_pos (by omega)]
            · rw [if_neg hlt, if_neg (by omega)]
    · intro out ⟨hol, hI⟩
      refine ev_end (fun k => ?_)
      simp only [raster_Paste.l0]
      rw [if_neg (by omega)]
      unfold pasteOf
      rw [← upto_of (w := w) (h := h) (d := false) (l := out) (by omega) hol]
      intro u v hu0 hu hv0 hv
      rw [hI u v hu0 hu hv0 hv]
      by_cases hlt : v < b
      · rw [if_pos hlt]
      · have hn2 : ¬ (X ≤ u ∧ u < X + W ∧ Y ≤ v ∧ v < Y + H) := fun hh => by
          have := r1 v (by omega) (by omega) (by omega) (by omega)
          omega
        unfold pasteG
        rw [if_neg hlt, if_neg hn2]
    · refine ⟨hl, fun u v hu0 hu hv0 hv => ?_⟩
      unfold pasteG
      rw [← pix_in (d := false) (h := h) hu0 hu hv0 hv]
      by_cases hlt : v < g
      · have hn2 : ¬ (X ≤ u ∧ u < X + W ∧ Y ≤ v ∧ v < Y + H) := fun hh => by
          have := r1 v (by omega) (by omega) (by omega) (by omega)
          omega
        rw [if_pos hlt, if_neg hn2]
      · rw [if_neg hlt]
  · refine ev_end (fun k => ?_)
    have hout : l = upto w (pasteG w h l W H p X Y) (w * h).toNat := by
      refine upto_of (w := w) (h := h) (d := false) (by omega) hl (fun u v hu0 hu hv0 hv => ?_)
      have hn2 : ¬ (X ≤ u ∧ u < X + W ∧ Y ≤ v ∧ v < Y + H) := fun hh => by
        have := s1 u (by omega) (by omega) (by omega) (by omega)
        have := r1 v (by omega) (by omega) (by omega) (by omega)
        omega
      unfold pasteG
      rw [if_neg hn2, pix_in hu0 hu hv0 hv]
    simp only [raster_Paste.l0]
    unfold pasteOf
    rw [← hout]
    by_cases hgb : g < b
    · rw [if_pos hgb, if_neg (by omega)]
    · rw [if_neg hgb]

theorem paste_bad {w h : Int} {l : List Bool} {W H : Int} {p : List Bool} {X Y : Int} (V : ¬ (Valid w h l.length ∧ Valid W H p.length)) : Ev (fun k => raster_Paste.f k w h l W H p X Y) (0, 0, [], 1) := by
  unfold raster_Paste.f
  rw [check_eq, check_eq]
  by_cases h1 : Valid w h l.length
  · have F : ¬ Valid W H p.length := fun F => V ⟨h1, F⟩
    rw [if_pos h1, if_neg F]
    exact ev_end (fun k => by simp [raster_Paste.j0])
  · rw [if_neg h1]
    exact ev_end (fun k => by simp [raster_Paste.j0])
end Go.Proofs.Ytcmcmoaikabfoaa.Pure
