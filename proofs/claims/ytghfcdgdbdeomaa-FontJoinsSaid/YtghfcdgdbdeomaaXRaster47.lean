/-
What New and Enlarge of raster answer, in plain numbers. Conditions: as each theorem says.
-/
import Derived.Test.YtghfcdgdbdeomaaPRx4
import Derived.Test.YtghfcdgdbdeomaaPRx5
import Derived.Test.YtghfcdgdbdeomaaXPure
namespace Go.Proofs.Ytghfcdgdbdeomaa.Pure
set_option linter.unusedVariables false
set_option linter.unusedSimpArgs false
open Go.RowKit Go.Proofs.Ytghfcdgdbdeomaa.PR Go.Proofs.YtghfcdgdbdeomaaW.PrintWords Go.Proofs.YtghfcdgdbdeomaaW.PrintLast Go.Proofs.YtghfcdgdbdeomaaW.PrintMore Go.Proofs.Ytghfcdgdbdeomaa.XWords Go.Proofs.Ytghfcdgdbdeomaa.XPure

/-- The sizes that bitmaps have. -/
def Fits (w h : Int) : Prop := 1 ≤ w ∧ w ≤ 4096 ∧ 1 ≤ h ∧ h ≤ 4096 ∧ w * h ≤ 4194304
instance (w h : Int) : Decidable (Fits w h) := by unfold Fits; infer_instance
/-- A valid bitmap or image. -/
def Valid (w h : Int) (n : Nat) : Prop := Fits w h ∧ (n : Int) = w * h
instance (w h : Int) (n : Nat) : Decidable (Valid w h n) := by unfold Valid; infer_instance

theorem mul_bound {w h : Int} (h1 : 1 ≤ w) (h2 : w ≤ 4096) (h3 : 1 ≤ h) (h4 : h ≤ 4096) : 1 ≤ w * h ∧ w * h ≤ 16777216 := by
  have a : 1 * 1 ≤ w * h := Int.mul_le_mul h1 h3 (by omega) (by omega)
  have b : w * h ≤ 4096 * 4096 := Int.mul_le_mul h2 h4 (by omega) (by omega)
  omega
theorem Fits.pos {w h : Int} (F : Fits w h) : 1 ≤ w * h := (mul_bound F.1 F.2.1 F.2.2.1 F.2.2.2.1).1
theorem w64_mul {w h : Int} (h1 : 1 ≤ w) (h2 : w ≤ 4096) (h3 : 1 ≤ h) (h4 : h ≤ 4096) : wrap64 (w * h) = w * h := by
  have := mul_bound h1 h2 h3 h4
  exact w64 (by omega)
theorem Fits.w64 {w h : Int} (F : Fits w h) : wrap64 (w * h) = w * h := w64_mul F.1 F.2.1 F.2.2.1 F.2.2.2.1

theorem possible_eq (w h : Int) : raster_possible.f w h = some (decide (Fits w h)) := by
  unfold raster_possible.f Fits
  by_cases h1 : w ≥ 1
  · by_cases h2 : w ≤ 4096
    · by_cases h3 : h ≥ 1
      · by_cases h4 : h ≤ 4096
        · rw [if_pos h1, if_pos h2, if_pos h3, if_pos h4, w64_mul h1 h2 h3 h4]
          have h1' : 1 ≤ w := h1
          have h3' : 1 ≤ h := h3
          simp [h1', h2, h3', h4]
        · simp [h1, h2, h3, h4]
      · simp [h1, h2, h3]
    · simp [h1, h2]
  · simp [h1]
theorem check_eq (w h : Int) (l : List Bool) : raster_Check.f w h l = some (if Valid w h l.length then 0 else 1) := by
  unfold raster_Check.f Valid
  rw [possible_eq]
  by_cases F : Fits w h
  · simp only [decide_eq_true F, Option.bind_some, if_true, F.w64, F, true_and]
    by_cases h1 : (l.length : Int) = w * h
    · rw [if_pos h1, if_pos h1]; rfl
    · rw [if_neg h1, if_neg h1]; rfl
  · simp [F]
theorem new_eq (w h : Int) : raster_New.f w h = some (if Fits w h then (w, h, List.replicate (w * h).toNat false, 0) else (0, 0, [], 23)) := by
  unfold raster_New.f
  rw [possible_eq]
  by_cases F : Fits w h
  · have := F.pos
    have := F.2.2.2.2
    simp only [decide_eq_true F, Option.bind_some, if_true, F.w64, if_pos F]
    rw [if_pos (by omega), if_pos (by omega)]
  · simp [F]
/-- A pixel of a table; those outside have the default. -/
def pix {α : Type} (d : α) (w h : Int) (l : List α) (x y : Int) : α := if 0 ≤ x ∧ x < w ∧ 0 ≤ y ∧ y < h then l.getD (y * w + x).toNat d else d
theorem pix_in {α : Type} {d : α} {w h : Int} {l : List α} {x y : Int} (h1 : 0 ≤ x) (h2 : x < w) (h3 : 0 ≤ y) (h4 : y < h) : pix d w h l x y = l.getD (y * w + x).toNat d := if_pos ⟨h1, h2, h3, h4⟩
theorem pix_out {α : Type} {d : α} {w h : Int} {l : List α} {x y : Int} (h0 : ¬ (0 ≤ x ∧ x < w ∧ 0 ≤ y ∧ y < h)) : pix d w h l x y = d := if_neg h0
theorem Valid.spot {w h : Int} {n : Nat} (V : Valid w h n) {x y : Int} (h1 : 0 ≤ x) (h2 : x < w) (h3 : 0 ≤ y) (h4 : y < h) :
    wrap64 (y * w) = y * w ∧ wrap64 (y * w + x) = y * w + x ∧ 0 ≤ y * w ∧ 0 ≤ y * w + x ∧ y * w + x < n ∧ y * w + w ≤ n ∧ (n : Int) ≤ 4194304 := by
  have a : 0 ≤ y * w := Int.mul_nonneg h3 (by omega)
  have b := row_lt (w := w) (h := h) h2 h1 h4 h3
  have c := row_lt (w := w) (h := h) (u := w - 1) (by omega) (by omega) h4 h3
  have d := V.2
  have e := V.1.2.2.2.2
  refine ⟨w64 ?_, w64 ?_, ?_⟩ <;> omega
/-- What Enlarge answers where nothing is wrong. -/
def enlargeOf (w h : Int) (l : List Bool) (K : Int) : List Bool := upto (K * w) (fun u v => pix false w h l (u / K) (v / K)) (K * w * (K * h)).toNat
theorem quot_in {K w u : Int} (hK : 1 ≤ K) (h0 : 0 ≤ u) (h1 : u < K * w) : 0 ≤ u / K ∧ u / K < w ∧ Int.tdiv u K = u / K := by
  refine ⟨Int.ediv_nonneg h0 (by omega), Int.ediv_lt_of_lt_mul (by omega) (by rw [Int.mul_comm]; exact h1), Int.tdiv_eq_ediv_of_nonneg h0⟩
theorem scaled {K w : Int} (h1 : 1 ≤ w) (h2 : w ≤ 4096) (h3 : 1 ≤ K) (h4 : K ≤ 4096) : wrap64 (K * w) = K * w := w64_mul h3 h4 h1 h2

theorem enlarge_ok {w h : Int} {l : List Bool} {K : Int} (V : Valid w h l.length) (h1 : 1 ≤ K) (h2 : K ≤ 4096) (F : Fits (K * w) (K * h)) : Ev (fun k => raster_Enlarge.f k w h l K) (K * w, K * h, enlargeOf w h l K, 0) := by
  unfold raster_Enlarge.f
  obtain ⟨⟨F1, F2, F3, F4, F5⟩, hl⟩ := id V
  obtain ⟨G1, G2, G3, G4, G5⟩ := id F
  rw [check_eq, if_pos V]
  simp only [Option.bind_some, if_true]
  have hk1 : ¬ K < 1 := by omega
  have hk2 : decide (K > 4096) = false := decide_eq_false (by omega)
  simp only [if_neg hk1, hk2]
  refine Ev.step (f := fun k => raster_Enlarge.l0 k K (K * h) 0 w h l (K * w) (K * h) []) (fun k => ?_) ?_
  · simp only [raster_Enlarge.j0, scaled F1 F2 h1 h2, scaled F3 F4 h1 h2, possible_eq, decide_eq_true F]
    rfl
  unfold enlargeOf
  refine ev_table (K * w) (K * h) (by omega) (by omega) (fun u v => pix false w h l (u / K) (v / K)) (fun k v acc => raster_Enlarge.l0 k K (K * h) v w h l (K * w) (K * h) acc) (fun k v u acc => raster_Enlarge.l1 k K v (K * h) v (K * w) u w h l (K * w) (K * h) acc) (fun acc => (K * w, K * h, acc, 0)) ?_ ?_ ?_ ?_
  · intro k v acc hv0 hv
    simp only [raster_Enlarge.l0]
    rw [if_pos hv]
  · intro k v u acc hv0 hv hu0 hu hal
    have := row_lt (w := K * w) (h := K * h) hu hu0 hv hv0
    obtain ⟨a1, a2, a3⟩ := quot_in h1 hu0 hu
    obtain ⟨b1, b2, b3⟩ := quot_in h1 hv0 hv
    obtain ⟨z1, z2, z3, z4, z5, _⟩ := V.spot a1 a2 b1 b2
    have e1 : wrap64 (u / K) = u / K := w64 (by omega)
    have e2 : wrap64 (v / K) = v / K := w64 (by omega)
    simp only [raster_Enlarge.l1, a3, b3, e1, e2, z1, z2]
    rw [if_pos hu, if_neg (by omega), if_pos z4, if_pos z5, if_pos (by omega), w64 (by omega), pix_in a1 a2 b1 b2]
    rfl
  · intro k v acc hv0 hv
    simp only [raster_Enlarge.l1]
    rw [if_neg (by omega), w64 (by omega)]
  · intro k acc
    simp only [raster_Enlarge.l0]
    rw [if_neg (by omega)]
end Go.Proofs.Ytghfcdgdbdeomaa.Pure
