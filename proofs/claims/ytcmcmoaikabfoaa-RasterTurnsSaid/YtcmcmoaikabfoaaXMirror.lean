/-
Mirror answers the table with its columns in the opposite order. Conditions: as each theorem says.
-/
import Derived.Test.YtcmcmoaikabfoaaXTurn
import Derived.Test.YtcmcmoaikabfoaaPRx11
namespace Go.Proofs.Ytcmcmoaikabfoaa.Pure
set_option linter.unusedVariables false
set_option linter.unusedSimpArgs false
open Go.RowKit Go.Proofs.Ytcmcmoaikabfoaa.PR Go.Proofs.YtcmcmoaikabfoaaW.PrintWords Go.Proofs.YtcmcmoaikabfoaaW.PrintLast Go.Proofs.YtcmcmoaikabfoaaW.PrintMore Go.Proofs.Ytcmcmoaikabfoaa.XWords Go.Proofs.Ytcmcmoaikabfoaa.XPure

theorem revCut_length {l : List Bool} {off m : Nat} (h : off + m ≤ l.length) : (XReverse.revCut l off m).length = l.length := by
  unfold XReverse.revCut
  exact length_splice _ _ _ (by rw [List.length_reverse, List.length_drop, List.length_take]; omega)
theorem revCut_getD {l : List Bool} {off m : Nat} (h : off + m ≤ l.length) (j : Nat) : (XReverse.revCut l off m).getD j false = if off ≤ j ∧ j < off + m then l.getD (off + (m - 1 - (j - off))) false else l.getD j false := by
  have hlen : ((l.take (off + m)).drop off).length = m := by rw [List.length_drop, List.length_take]; omega
  unfold XReverse.revCut
  rw [getD_splice _ _ _ _ (by omega), List.length_reverse, hlen]
  by_cases c : off ≤ j ∧ j < off + m
  · rw [if_pos c, if_pos c, List.getD_eq_getElem?_getD, List.getElem?_reverse (by omega), hlen, ← List.getD_eq_getElem?_getD, getD_take_drop _ _ _ _ _ (by omega)]
  · rw [if_neg c, if_neg c]
theorem mirror_ok {x : (Int × Int × (Int → Int → Bool))} (F : Fits x.1 x.2.1) : Ev (fun k => raster_Mirror.f k x.1 x.2.1 (tab x)) (x.1, x.2.1, tab (mir x), 0) := by
  obtain ⟨w, h, g⟩ := x
  obtain ⟨G1, G2, G3, G4, G5⟩ := id F
  simp only at G1 G2 G3 G4 G5
  have hl := tab_length F
  have hp := F.pos
  simp only at hl hp
  show Ev (fun k => raster_Mirror.f k w h (tab (w, h, g))) (w, h, tab (mir (w, h, g)), 0)
  unfold raster_Mirror.f
  rw [check_eq, if_pos (tab_valid F), clone_eq (tab_small F)]
  simp only [Option.bind_some, if_true]
  refine ev_loop (fun k v out => raster_Mirror.l0 k h v w h (tab (w, h, g)) w h out) 0 h (by omega)
    (fun v out => (out.length : Int) = w * h ∧ ∀ a b, 0 ≤ a → a < w → 0 ≤ b → b < h → out.getD (b * w + a).toNat false = if b < v then g (w - 1 - a) b else g a b) _ ?_ ?_ _ ?_
  · rintro v out hv0 hv ⟨ho, hI⟩ K
    have hvw0 : 0 ≤ v * w := Int.mul_nonneg hv0 (by omega)
    have hvw := row_lt (w := w) (h := h) (u := w - 1) (v := v) (by omega) (by omega) hv hv0
    have e1 : (v + 1) * w = v * w + w := by rw [Int.add_mul, Int.one_mul]
    have e2 : (v * w + w).toNat - (v * w).toNat = w.toNat := by omega
    refine Ev.step (f := fun k => raster_Mirror.l0 k h (v + 1) w h (tab (w, h, g)) w h (XReverse.revCut out (v * w).toNat w.toNat)) (fun k => ?_) (K _ ⟨?_, ?_⟩)
    · simp only [raster_Mirror.l0]
      rw [if_pos hv, w64 (n := v * w) (by omega), w64 (n := v + 1) (by omega), e1, w64 (n := v * w + w) (by omega), if_pos hvw0, if_pos (by omega), if_pos (by omega), if_pos (by omega), if_pos (by omega), e2]
    · rw [revCut_length (by omega)]; exact ho
    · intro a b ha0 ha hb0 hb
      have hab0 := row_nonneg (w := w) (u := a) (v := b) (by omega) ha0 hb0
      rw [revCut_getD (by omega)]
      by_cases he : b = v
      · subst he
        rw [if_pos (by omega), if_pos (by omega)]
        have e3 : (b * w).toNat + (w.toNat - 1 - ((b * w + a).toNat - (b * w).toNat)) = (b * w + (w - 1 - a)).toNat := by omega
        rw [e3, hI _ _ (by omega) (by omega) hb0 hb, if_neg (by omega)]
      · have hne : ¬ ((v * w).toNat ≤ (b * w + a).toNat ∧ (b * w + a).toNat < (v * w).toNat + w.toNat) := by
          rintro ⟨c1, c2⟩
          apply he
          have d1 : (b * w + a) / w = b := row_div ha0 ha
          have e : b * w + a = v * w + (b * w + a - v * w) := by omega
          have d2 : (v * w + (b * w + a - v * w)) / w = v := row_div (by omega) (by omega)
          rw [← e, d1] at d2
          exact d2
        rw [if_neg hne, hI a b ha0 ha hb0 hb]
        by_cases hc : b < v
        · rw [if_pos hc, if_pos (by omega)]
        · rw [if_neg hc, if_neg (by omega)]
  · rintro out ⟨ho, hI⟩
    refine ev_end (fun k => ?_)
    simp only [raster_Mirror.l0]
    rw [if_neg (by omega)]
    have : out = tab (mir (w, h, g)) := by
      show out = upto w (fun u v => g (w - 1 - u) v) (w * h).toNat
      exact upto_of (w := w) (h := h) (d := false) (by omega) ho (fun u v a b c d => by rw [hI u v a b c d, if_pos (by omega)])
    rw [this]
  · refine ⟨hl, fun a b ha0 ha hb0 hb => ?_⟩
    rw [if_neg (by omega)]
    exact tab_get false F ha0 ha hb0 hb
theorem mirror_bad {w h : Int} {l : List Bool} (B : ¬ Valid w h l.length) : ∀ k, raster_Mirror.f k w h l = some (0, 0, [], 1) := by
  intro k
  unfold raster_Mirror.f
  rw [check_eq, if_neg B]
  rfl
end Go.Proofs.Ytcmcmoaikabfoaa.Pure
