/-
RasterTurns, over numbers and rows alone: Turn, TurnImage, Mirror and Gray and their references answer the same. Conditions: none.
-/
import Derived.Test.YtcmcmoaikabfoaaStmtRasterTurns
import Derived.Test.YtcmcmoaikabfoaaXMirror
import Derived.Test.YtcmcmoaikabfoaaXTurnImage
namespace Go.Proofs.Ytcmcmoaikabfoaa.Pure
set_option linter.unusedVariables false
set_option linter.unusedSimpArgs false
open Go.RowKit Go.Proofs.Ytcmcmoaikabfoaa.PR Go.Proofs.YtcmcmoaikabfoaaW.PrintWords Go.Proofs.YtcmcmoaikabfoaaW.PrintLast Go.Proofs.YtcmcmoaikabfoaaW.PrintMore Go.Proofs.Ytcmcmoaikabfoaa.XWords Go.Proofs.Ytcmcmoaikabfoaa.XPure

theorem RasterTurns : barscanlaw31_RasterTurns.Pure := by
  intro w h l W H L a hw hh hl hW hH hL hx ha
  refine Ev.rounds (g := fun k => barscanlaw31_RasterTurns.f k w h l W H L a) ?_
  have he : Ev (fun k => (barscanlaw31_examples.f k).bind fun t => some t) true := Ev.bind examples_ok (Ev.now _)
  unfold barscanlaw31_RasterTurns.f
  by_cases B : (l.length : Int) > 40000
  · simp only [if_pos B]
    exact he
  by_cases B2 : (L.length : Int) > 40000
  · simp only [if_neg B, if_pos B2]
    exact he
  simp only [if_neg B, if_neg B2]
  have image_self : ∀ (W H : Int) (L : List Int), L.length ≤ 4194304 → Ev (fun k => barscanref31_EqualImage.f k W H L W H L) true := fun W H L hL => by
    have := refEqualImage_eq (w := W) (h := H) (W := W) (H := H) (l := L) (m := L) hL
    rwa [sameAs_self] at this
  -- what the two turns answer
  obtain ⟨T, hT1, hT2, hTl⟩ : ∃ T : Int × Int × List Bool × Int, Ev (fun k => raster_Turn.f k w h l a) T ∧ Ev (fun k => barscanref31_Turn.f k w h l a) T ∧ T.2.2.1.length ≤ 4194304 := by
    by_cases V : Valid w h l.length
    · have hx := tab_of false V
      generalize (fun u v => l.getD (v * w + u).toNat false) = g at hx
      have F : Fits ((w, h, g) : (Int × Int × (Int → Int → Bool))).1 ((w, h, g) : (Int × Int × (Int → Int → Bool))).2.1 := V.1
      rw [hx]
      exact ⟨_, turn_ok F a, refTurn_b_ok F a, tab_small (rotN_fits _ _ F)⟩
    · exact ⟨_, ⟨0, fun k _ => turn_bad V a k⟩, ⟨0, fun k _ => refTurn_b_bad V a k⟩, by simp⟩
  obtain ⟨I, hI1, hI2, hIl⟩ : ∃ T : Int × Int × List Int × Int, Ev (fun k => raster_TurnImage.f k W H L a) T ∧ Ev (fun k => barscanref31_TurnImage.f k W H L a) T ∧ T.2.2.1.length ≤ 4194304 := by
    by_cases V : Valid W H L.length
    · have hx := tab_of 0 V
      generalize (fun u v => L.getD (v * W + u).toNat 0) = g at hx
      have F : Fits ((W, H, g) : (Int × Int × (Int → Int → Int))).1 ((W, H, g) : (Int × Int × (Int → Int → Int))).2.1 := V.1
      rw [hx]
      exact ⟨_, turnImage_ok F a, refTurn_i_ok F a, tab_small (rotN_fits _ _ F)⟩
    · exact ⟨_, ⟨0, fun k _ => turnImage_bad V a k⟩, ⟨0, fun k _ => refTurn_i_bad V a k⟩, by simp⟩
  obtain ⟨M, hM1, hM2, hMl⟩ : ∃ T : Int × Int × List Bool × Int, Ev (fun k => raster_Mirror.f k w h l) T ∧ Ev (fun k => barscanref31_Mirror.f k w h l) T ∧ T.2.2.1.length ≤ 4194304 := by
    by_cases V : Valid w h l.length
    · have hx := tab_of false V
      generalize (fun u v => l.getD (v * w + u).toNat false) = g at hx
      have F : Fits ((w, h, g) : (Int × Int × (Int → Int → Bool))).1 ((w, h, g) : (Int × Int × (Int → Int → Bool))).2.1 := V.1
      rw [hx]
      exact ⟨_, mirror_ok F, refMirror_ok F, tab_small (x := mir (w, h, g)) F⟩
    · exact ⟨_, ⟨0, fun k _ => mirror_bad V k⟩, ⟨0, fun k _ => refMirror_bad V k⟩, by simp⟩
  obtain ⟨G, hG1, hG2, hGl⟩ : ∃ T : Int × Int × List Int × Int, Ev (fun k => raster_Gray.f k w h l) T ∧ Ev (fun k => barscanref31_Gray.f k w h l) T ∧ T.2.2.1.length ≤ 4194304 := by
    by_cases V : Valid w h l.length
    · exact ⟨_, gray_ok V, refGray_ok V, by simp only [List.length_map]; omega⟩
    · exact ⟨_, ⟨0, fun k _ => gray_bad V k⟩, ⟨0, fun k _ => refGray_bad V k⟩, by simp⟩
  refine Ev.bind hT1 (Ev.bind hT2 (Ev.bind hI1 (Ev.bind hI2 (Ev.bind hM1 (Ev.bind hM2 (Ev.bind hG1 (Ev.bind hG2 (Ev.bind (same_self _ _ _ hTl) ?_))))))))
  simp only [if_true]
  refine Ev.bind (image_self _ _ _ hIl) ?_
  simp only [if_true]
  refine Ev.bind (same_self _ _ _ hMl) ?_
  simp only [if_true]
  refine Ev.bind (image_self _ _ _ hGl) ?_
  simp only [if_true]
  exact he
end Go.Proofs.Ytcmcmoaikabfoaa.Pure
