/-
RasterPastesBack over numbers and rows: the box of a pasted part is the part, and the rest is as it was. Conditions: none.
-/
import Derived.Test.YtcmcmoaikabfoaaStmtRasterPastesBack
import Derived.Test.YtcmcmoaikabfoaaXCrop
import Derived.Test.YtcmcmoaikabfoaaXPaste
namespace Go.Proofs.Ytcmcmoaikabfoaa.Pure
set_option linter.unusedVariables false
open Go.RowKit Go.Proofs.Ytcmcmoaikabfoaa.PR Go.Proofs.YtcmcmoaikabfoaaW.PrintWords Go.Proofs.YtcmcmoaikabfoaaW.PrintLast Go.Proofs.YtcmcmoaikabfoaaW.PrintMore Go.Proofs.Ytcmcmoaikabfoaa.XWords Go.Proofs.Ytcmcmoaikabfoaa.XPure

theorem pix_upto {w h : Int} {g : Int → Int → Bool} {x y : Int} (h1 : 0 ≤ x) (h2 : x < w) (h3 : 0 ≤ y) (h4 : y < h) : pix false w h (upto w g (w * h).toNat) x y = g x y := by
  have := row_lt (w := w) (h := h) h2 h1 h4 h3
  rw [pix_in h1 h2 h3 h4, upto_getD h1 h2 h3 (by omega)]
theorem crop_paste {w h : Int} {l : List Bool} {W H : Int} {p : List Bool} {X Y : Int} (P : Valid W H p.length) (hX : 0 ≤ X) (hY : 0 ≤ Y) (hW : X + W ≤ w) (hH : Y + H ≤ h) :
    upto W (fun u v => pix false w h (upto w (pasteG w h l W H p X Y) (w * h).toNat) (X + u) (Y + v)) (W * H).toNat = p := by
  obtain ⟨⟨G1, G2, G3, G4, G5⟩, hp⟩ := id P
  refine (upto_of (d := false) (by omega) hp (fun u v hu0 hu hv0 hv => ?_)).symm
  rw [pix_upto (by omega) (by omega) (by omega) (by omega)]
  unfold pasteG
  have e1 : X + u - X = u := by omega
  have e2 : Y + v - Y = v := by omega
  rw [if_pos (by omega), e1, e2, pix_in hu0 hu hv0 hv]
theorem back_l0 {w h : Int} {l : List Bool} {W H : Int} {p : List Bool} {X Y : Int} (V : Valid w h l.length) (P : Valid W H p.length) (hX : 0 ≤ X) (hX2 : X ≤ 255) (hY : 0 ≤ Y) (hY2 : Y ≤ 255) :
    Ev (fun k => barscanlaw31_RasterPastesBack.l0 k X Y l.length 0 w h l W H p w h (upto w (pasteG w h l W H p X Y) (w * h).toNat)) true := by
  obtain ⟨⟨F1, F2, F3, F4, F5⟩, hl⟩ := id V
  obtain ⟨⟨G1, G2, G3, G4, G5⟩, hp⟩ := id P
  refine ev_loop (fun k i (_ : Unit) => barscanlaw31_RasterPastesBack.l0 k X Y l.length i w h l W H p w h (upto w (pasteG w h l W H p X Y) (w * h).toNat)) 0 l.length (by omega) (fun _ _ => True) _ ?_ ?_ () trivial
  · intro i s hi hin _ K
    have b0 := Int.emod_nonneg i (show w ≠ 0 by omega)
    have b1 := Int.emod_lt_of_pos i (show 0 < w by omega)
    have b2 : 0 ≤ i / w := Int.ediv_nonneg hi (by omega)
    have b3 : i / w < h := div_lt (by omega) (by omega)
    have hol : ((upto w (pasteG w h l W H p X Y) (w * h).toNat).length : Int) = l.length := by rw [upto_length]; omega
    have e1 : (upto w (pasteG w h l W H p X Y) (w * h).toNat).getD i.toNat false = pasteG w h l W H p X Y (i % w) (i / w) := by
      have := upto_getD (d := false) (g := pasteG w h l W H p X Y) (n := (w * h).toNat) b0 b1 b2 (by rw [mod_div (by omega)]; omega)
      rw [mod_div (by omega)] at this
      exact this
    have same : ¬ (X ≤ i % w ∧ i % w < X + W ∧ Y ≤ i / w ∧ i / w < Y + H) → (rdOf false (upto w (pasteG w h l W H p X Y) (w * h).toNat) i != rdOf false l i) = false := by
      intro hc
      unfold rdOf
      rw [e1]
      unfold pasteG
      rw [if_neg hc, pix_in b0 b1 b2 b3, mod_div (by omega)]
      simp
    refine Ev.step (f := fun k => barscanlaw31_RasterPastesBack.l0 k X Y l.length (i + 1) w h l W H p w h (upto w (pasteG w h l W H p X Y) (w * h).toNat)) (fun k => ?_) (K () trivial)
    simp only [barscanlaw31_RasterPastesBack.l0]
    rw [if_pos hin, if_neg (by omega), Int.tmod_eq_emod_of_nonneg hi, Int.tdiv_eq_ediv_of_nonneg hi, w64 (n := X) (by omega), w64 (n := Y) (by omega), w64 (n := i % w - X) (by omega), w64 (n := i / w) (by omega), w64 (n := i / w - Y) (by omega), w64 (n := i + 1) (by omega)]
    by_cases c1 : i % w - X < 0
    · rw [if_pos c1, if_pos hi, if_pos (by omega), if_pos hin, same (by omega)]
      rfl
    · by_cases c2 : i % w - X ≥ W
      · rw [if_neg c1, if_pos c2, if_pos hi, if_pos (by omega), if_pos hin, same (by omega)]
        rfl
      · by_cases c3 : i / w - Y < 0
        · rw [if_neg c1, if_neg c2, if_pos c3, if_pos hi, if_pos (by omega), if_pos hin, same (by omega)]
          rfl
        · by_cases c4 : i / w - Y ≥ H
          · rw [if_neg c1, if_neg c2, if_neg c3, if_pos c4, if_pos hi, if_pos (by omega), if_pos hin, same (by omega)]
            rfl
          · rw [if_neg c1, if_neg c2, if_neg c3, if_neg c4]
  · intro s _
    refine Ev.step (f := fun k => (barscanlaw31_examples.f k).bind fun t => some t) (fun k => ?_) (Ev.bind examples_ok (Ev.now _))
    simp only [barscanlaw31_RasterPastesBack.l0]
    rw [if_neg (by omega)]
theorem RasterPastesBack : barscanlaw31_RasterPastesBack.Pure := by
  intro w h l W H p X Y _ _ hl _ _ hp wx wy
  refine Ev.rounds (g := fun k => barscanlaw31_RasterPastesBack.f k w h l W H p X Y) ?_
  have ux := wf_u8 wx
  have uy := wf_u8 wy
  have he : Ev (fun k => (barscanlaw31_examples.f k).bind fun t => some t) true := Ev.bind examples_ok (Ev.now _)
  have hflag : ∀ b : Bool, (b = false → l.length ≤ 40000 ∧ p.length ≤ 40000) → Ev (fun k => barscanlaw31_RasterPastesBack.j0 k X Y b w h l W H p) true := by
    intro b hb
    cases b with
    | true => exact Ev.step (fun k => by simp only [barscanlaw31_RasterPastesBack.j0, if_true]) he
    | false =>
      refine Ev.step (f := fun k => _) (fun k => by simp only [barscanlaw31_RasterPastesBack.j0, Bool.false_eq_true, if_false]; rfl) ?_
      rw [w64 (n := X) (by omega), w64 (n := Y) (by omega)]
      by_cases B : Valid w h l.length ∧ Valid W H p.length
      · obtain ⟨V, P⟩ := B
        obtain ⟨⟨F1, F2, F3, F4, F5⟩, hwl⟩ := id V
        obtain ⟨⟨G1, G2, G3, G4, G5⟩, hwp⟩ := id P
        refine Ev.bind (paste_ok V P) ?_
        simp only [pasteOf, if_true]
        have hlen : (((upto w (pasteG w h l W H p X Y) (w * h).toNat).length : Int) != (l.length : Int)) = false := by
          rw [upto_length]
          have : (((w * h).toNat : Nat) : Int) = l.length := by omega
          simp [this]
        rw [hlen]
        have h3 : Ev (fun k => barscanlaw31_RasterPastesBack.j3 k X Y w h l W H p w h (upto w (pasteG w h l W H p X Y) (w * h).toNat)) true :=
          Ev.step (fun k => by simp only [barscanlaw31_RasterPastesBack.j3]) (back_l0 V P ux.1 ux.2 uy.1 uy.2)
        have h2 : ∀ b : Bool, (b = true → X + W ≤ w ∧ Y + H ≤ h) → Ev (fun k => barscanlaw31_RasterPastesBack.j2 k X Y b w h l W H p w h (upto w (pasteG w h l W H p X Y) (w * h).toNat)) true := by
          intro b hb
          cases b with
          | false => exact Ev.step (fun k => by simp only [barscanlaw31_RasterPastesBack.j2, Bool.false_eq_true, if_false]) h3
          | true =>
            obtain ⟨b1, b2⟩ := hb rfl
            refine Ev.step (f := fun k => _) (fun k => by simp only [barscanlaw31_RasterPastesBack.j2, if_true]; rfl) ?_
            rw [w64 (n := X) (by omega), w64 (n := Y) (by omega)]
            have V' : Valid w h (upto w (pasteG w h l W H p X Y) (w * h).toNat).length := by
              rw [upto_length]
              exact ⟨V.1, by omega⟩
            refine Ev.bind (crop_ok V' P.1) ?_
            simp only [cropOf, if_true]
            rw [crop_paste P ux.1 uy.1 b1 b2]
            refine Ev.bind (same_self _ _ _ (by omega)) ?_
            simp only [if_true]
            exact h3
        refine Ev.step (f := fun k => _) (fun k => by simp only [barscanlaw31_RasterPastesBack.j1, Bool.false_eq_true, if_false]; rfl) ?_
        rw [w64 (n := X) (by omega), w64 (n := Y) (by omega), w64 (n := X + W) (by omega), w64 (n := Y + H) (by omega)]
        by_cases c1 : X + W ≤ w
        · simp only [if_pos c1]
          exact h2 _ (fun hh => ⟨c1, of_decide_eq_true hh⟩)
        · simp only [if_neg c1]
          exact h2 false (fun hh => by cases hh)
      · refine Ev.bind (paste_bad B) ?_
        have n10 : ¬ (1 : Int) = 0 := by decide
        simp only [if_neg n10, if_true, check_eq, Option.bind_some]
        by_cases V : Valid w h l.length
        · have P : ¬ Valid W H p.length := fun P => B ⟨V, P⟩
          simp only [if_pos V, if_true, if_neg P, if_neg n10]
          exact he
        · simp only [if_neg V, if_neg n10]
          exact he
  unfold barscanlaw31_RasterPastesBack.f
  by_cases c0 : (l.length : Int) > 40000
  · simp only [if_pos c0]
    exact hflag true (fun hh => by cases hh)
  · simp only [if_neg c0]
    exact hflag _ (fun hh => ⟨by omega, by have := of_decide_eq_false hh; omega⟩)
end Go.Proofs.Ytcmcmoaikabfoaa.Pure
