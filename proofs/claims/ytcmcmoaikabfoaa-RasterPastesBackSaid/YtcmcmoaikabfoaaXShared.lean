/-
The common part of two ranges, a row laid into a table, and the clamp of the reference. Conditions: as each theorem says.
-/
import Derived.Test.YtcmcmoaikabfoaaXBase
namespace Go.Proofs.Ytcmcmoaikabfoaa.Pure
set_option linter.unusedVariables false
set_option linter.unusedSimpArgs false
open Go.RowKit Go.Proofs.Ytcmcmoaikabfoaa.PR Go.Proofs.YtcmcmoaikabfoaaW.PrintWords Go.Proofs.YtcmcmoaikabfoaaW.PrintLast Go.Proofs.YtcmcmoaikabfoaaW.PrintMore Go.Proofs.Ytcmcmoaikabfoaa.XWords Go.Proofs.Ytcmcmoaikabfoaa.XPure

/-- The part of a range of n numbers from a on that lies in 0 .. most - 1. -/
theorem shared_eq {a n most : Int} (h1 : 1 ≤ n) (h2 : n ≤ 4096) (h3 : 1 ≤ most) (h4 : most ≤ 4096) :
    ∃ f t, raster_shared.f a n most = some (f, t) ∧ ((∀ x, 0 ≤ x → x < most → a ≤ x → x < a + n → f ≤ x ∧ x < t) ∧ (f < t → 0 ≤ f ∧ t ≤ most ∧ a ≤ f ∧ t ≤ a + n)) ∧ 0 ≤ f ∧ t ≤ most := by
  unfold raster_shared.f mx mn
  rw [w64 (n := -n) (by omega)]
  by_cases ha : a ≥ most
  · rw [if_pos ha]
    exact ⟨0, 0, rfl, ⟨fun x _ _ _ _ => by omega, fun _ => by omega⟩, by omega, by omega⟩
  · by_cases hb : a ≤ -n
    · rw [if_neg ha, if_pos hb]
      exact ⟨0, 0, rfl, ⟨fun x _ _ _ _ => by omega, fun _ => by omega⟩, by omega, by omega⟩
    · rw [if_neg ha, if_neg hb, w64 (n := a + n) (by omega)]
      refine ⟨_, _, rfl, ⟨fun x _ _ _ _ => ?_, fun _ => ?_⟩, ?_, ?_⟩
      · split <;> split <;> omega
      · split <;> split <;> omega
      · split <;> omega
      · split <;> omega

/-- The rows of a table before and behind one. -/
theorem row_before {w u v y c : Int} (hw : 0 ≤ w) (hu : u < w) (hc : 0 ≤ c) (h : v < y) : v * w + u < y * w + c := by
  have h1 : (v + 1) * w ≤ y * w := Int.mul_le_mul_of_nonneg_right (by omega) hw
  rw [Int.add_mul, Int.one_mul] at h1
  omega

/-- A row laid into a table. -/
theorem copyRow_getD {α : Type} {d : α} {W H : Int} {out : List α} {y' c n : Int} {src : List α} (hl : (out.length : Int) = W * H) (hc : 0 ≤ c) (hn : c + n ≤ W) (hn0 : 0 ≤ n) (hs : (src.length : Int) = n)
    (hy0 : 0 ≤ y') (hy : y' < H) {off : Nat} (ho : (off : Int) = y' * W + c) {m : Nat} (hm : src.length ≤ m) {u v : Int} (hu0 : 0 ≤ u) (hu : u < W) (hv0 : 0 ≤ v) (hv : v < H) :
    (copyIn out off m src).getD (v * W + u).toNat d = if v = y' ∧ c ≤ u ∧ u < c + n then src.getD (u - c).toNat d else out.getD (v * W + u).toNat d := by
  unfold copyIn
  rw [List.take_of_length_le hm]
  have hW : 0 ≤ W := by omega
  have h1 := row_lt (w := W) (h := H) (u := u) (v := v) hu hu0 hv hv0
  have h2 := row_nonneg (w := W) (u := u) (v := v) hW hu0 hv0
  have h3 : y' * W + W ≤ W * H := by
    have := row_lt (w := W) (h := H) (u := W - 1) (v := y') (by omega) (by omega) hy hy0
    omega
  have h4 : ((v * W + u).toNat : Int) = v * W + u := Int.toNat_of_nonneg h2
  rw [getD_splice _ _ _ _ (by omega)]
  by_cases hv' : v = y'
  · subst hv'
    by_cases hcu : c ≤ u ∧ u < c + n
    · rw [if_pos (by omega), if_pos ⟨rfl, hcu⟩]
      congr 1
      omega
    · rw [if_neg (by omega), if_neg (by omega)]
  · have hne : ¬ (v = y' ∧ c ≤ u ∧ u < c + n) := fun hh => hv' hh.1
    rw [if_neg hne]
    rcases Int.lt_or_gt_of_ne hv' with hlt | hgt
    · have := row_before (c := 0) hW hu (Int.le_refl 0) hlt
      rw [if_neg (by omega)]
    · have : y' * W + (c + n - 1) < v * W + u ∨ n = 0 := by
        by_cases hn1 : n = 0
        · exact .inr hn1
        · exact .inl (row_before (w := W) (u := c + n - 1) (v := y') (y := v) (c := u) hW (by omega) hu0 hgt)
      rw [if_neg]
      rcases this with h | h
      · omega
      · omega

theorem near_eq (X : Int) : barscanref31_near.f X = some (mx (-10000) (mn 10000 X)) := rfl
theorem near_pix (X u : Int) (h0 : 0 ≤ u) (h1 : u < 4096) : (mx (-10000) (mn 10000 X) = X ∧ -10000 ≤ X ∧ X ≤ 10000) ∨ (¬ (0 ≤ X + u ∧ X + u < 4096) ∧ ¬ (0 ≤ mx (-10000) (mn 10000 X) + u ∧ mx (-10000) (mn 10000 X) + u < 4096) ∧ -10000 ≤ mx (-10000) (mn 10000 X) ∧ mx (-10000) (mn 10000 X) ≤ 10000) := by
  unfold mx mn
  by_cases h2 : X < 10000
  · rw [if_pos h2]
    by_cases h3 : -10000 < X
    · rw [if_pos h3]; left; omega
    · rw [if_neg h3]
      by_cases h4 : X = -10000
      · left; omega
      · right; omega
  · rw [if_neg h2, if_pos (by decide)]
    by_cases h4 : X = 10000
    · left; omega
    · right; omega
end Go.Proofs.Ytcmcmoaikabfoaa.Pure
