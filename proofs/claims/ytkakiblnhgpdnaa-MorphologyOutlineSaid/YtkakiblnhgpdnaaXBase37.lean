/-
What the small functions of raster, of morphology and of its reference answer, in plain numbers. Conditions: as each theorem says.
-/
import Derived.Test.YtkakiblnhgpdnaaXBoxes
import Derived.Test.YtkakiblnhgpdnaaPRx1
import Derived.Test.YtkakiblnhgpdnaaPRx1
import Derived.Test.YtkakiblnhgpdnaaPRx7
import Derived.Test.YtkakiblnhgpdnaaPRx9
import Derived.Test.YtkakiblnhgpdnaaPRx16
import Derived.Test.YtkakiblnhgpdnaaPRx10
import Derived.Test.YtkakiblnhgpdnaaPRx9
import Derived.Test.YtkakiblnhgpdnaaPRx14
namespace Go.Proofs.Ytkakiblnhgpdnaa.Pure
set_option linter.unusedVariables false
set_option linter.unusedSimpArgs false
open Go.RowKit Go.Proofs.Ytkakiblnhgpdnaa.PR Go.Proofs.YtkakiblnhgpdnaaW.PrintWords Go.Proofs.YtkakiblnhgpdnaaW.PrintLast Go.Proofs.YtkakiblnhgpdnaaW.PrintMore Go.Proofs.Ytkakiblnhgpdnaa.XWords Go.Proofs.Ytkakiblnhgpdnaa.XPure

/-- The sizes that bitmaps have. -/
def Fits (w h : Int) : Prop := 1 ≤ w ∧ w ≤ 4096 ∧ 1 ≤ h ∧ h ≤ 4096 ∧ w * h ≤ 4194304
instance (w h : Int) : Decidable (Fits w h) := by unfold Fits; infer_instance
/-- A valid bitmap or image. -/
def Valid (w h : Int) (n : Nat) : Prop := Fits w h ∧ (n : Int) = w * h
instance (w h : Int) (n : Nat) : Decidable (Valid w h n) := by unfold Valid; infer_instance

theorem mul_bound {w h : Int} (h1 : 1 ≤ w) (h2 : w ≤ 4096) (h3 : 1 ≤ h) (h4 : h ≤ 4096) : 1 ≤ w * h ∧ w * h ≤ 16777216 := by
  have a : 1 * 1 ≤ w * h := Int.mul_le_mul h1 h3 (by omega) (by omega)
  have b : w * h ≤ 4096 * 4096 := Int.mul_le_mul h2 h4 (by omega) (by omega)
  omega
theorem Fits.pos {w h : Int} (F : Fits w h) : 1 ≤ w * h := (mul_bound F.1 F.2.1 F.2.2.1 F.2.2.2.1).1
theorem w64_mul {w h : Int} (h1 : 1 ≤ w) (h2 : w ≤ 4096) (h3 : 1 ≤ h) (h4 : h ≤ 4096) : wrap64 (w * h) = w * h := by
  have := mul_bound h1 h2 h3 h4
  exact w64 (by omega)
theorem Fits.w64 {w h : Int} (F : Fits w h) : wrap64 (w * h) = w * h := w64_mul F.1 F.2.1 F.2.2.1 F.2.2.2.1

theorem possible_eq (w h : Int) : raster_possible.f w h = some (decide (Fits w h)) := by
  unfold raster_possible.f Fits
  by_cases h1 : w ≥ 1
  · by_cases h2 : w ≤ 4096
    · by_cases h3 : h ≥ 1
      · by_cases h4 : h ≤ 4096
        · rw [if_pos h1, if_pos h2, if_pos h3, if_pos h4, w64_mul h1 h2 h3 h4]
          have h1' : 1 ≤ w := h1
          have h3' : 1 ≤ h := h3
          simp [h1', h2, h3', h4]
        · simp [h1, h2, h3, h4]
      · simp [h1, h2, h3]
    · simp [h1, h2]
  · simp [h1]
theorem fits_eq (w h : Int) : barscanref31_fits.f w h = some (decide (Fits w h)) := possible_eq w h
theorem check_eq (w h : Int) (l : List Bool) : raster_Check.f w h l = some (if Valid w h l.length then 0 else 1) := by
  unfold raster_Check.f Valid
  rw [possible_eq]
  by_cases F : Fits w h
  · simp only [decide_eq_true F, Option.bind_some, if_true, F.w64, F, true_and]
    by_cases h1 : (l.length : Int) = w * h
    · rw [if_pos h1, if_pos h1]; rfl
    · rw [if_neg h1, if_neg h1]; rfl
  · simp [F]
theorem valid_eq (w h : Int) (l : List Bool) : barscanref31_Valid.f w h l = some (decide (Valid w h l.length)) := by
  unfold barscanref31_Valid.f Valid
  rw [fits_eq]
  by_cases F : Fits w h
  · simp only [decide_eq_true F, Option.bind_some, if_true, F.w64, F, true_and]
    rfl
  · simp [F]
/-- A pixel of a table; those outside have the default. -/
def pix {α : Type} (d : α) (w h : Int) (l : List α) (x y : Int) : α := if 0 ≤ x ∧ x < w ∧ 0 ≤ y ∧ y < h then l.getD (y * w + x).toNat d else d
theorem pix_in {α : Type} {d : α} {w h : Int} {l : List α} {x y : Int} (h1 : 0 ≤ x) (h2 : x < w) (h3 : 0 ≤ y) (h4 : y < h) : pix d w h l x y = l.getD (y * w + x).toNat d := if_pos ⟨h1, h2, h3, h4⟩
theorem pix_out {α : Type} {d : α} {w h : Int} {l : List α} {x y : Int} (h0 : ¬ (0 ≤ x ∧ x < w ∧ 0 ≤ y ∧ y < h)) : pix d w h l x y = d := if_neg h0
theorem Valid.spot {w h : Int} {n : Nat} (V : Valid w h n) {x y : Int} (h1 : 0 ≤ x) (h2 : x < w) (h3 : 0 ≤ y) (h4 : y < h) :
    wrap64 (y * w) = y * w ∧ wrap64 (y * w + x) = y * w + x ∧ 0 ≤ y * w ∧ 0 ≤ y * w + x ∧ y * w + x < n ∧ y * w + w ≤ n ∧ (n : Int) ≤ 4194304 := by
  have a : 0 ≤ y * w := Int.mul_nonneg h3 (by omega)
  have b := row_lt (w := w) (h := h) h2 h1 h4 h3
  have c := row_lt (w := w) (h := h) (u := w - 1) (by omega) (by omega) h4 h3
  have d := V.2
  have e := V.1.2.2.2.2
  refine ⟨w64 ?_, w64 ?_, ?_⟩ <;> omega
theorem at_eq {w h : Int} {l : List Bool} (V : Valid w h l.length) (x y : Int) : raster_at.f w h l x y = some (pix false w h l x y) := by
  unfold raster_at.f
  by_cases h1 : x ≥ 0
  · by_cases h2 : x < w
    · by_cases h3 : y ≥ 0
      · by_cases h4 : y < h
        · obtain ⟨e1, e2, e3, e4, e5, _⟩ := V.spot h1 h2 h3 h4
          rw [if_pos h1, if_pos h2, if_pos h3, if_pos h4, e1, e2, if_pos e4, if_pos e5, pix_in h1 h2 h3 h4]
          rfl
        · rw [if_pos h1, if_pos h2, if_pos h3, if_neg h4, pix_out (by omega)]
      · rw [if_pos h1, if_pos h2, if_neg h3, pix_out (by omega)]
    · rw [if_pos h1, if_neg h2, pix_out (by omega)]
  · rw [if_neg h1, pix_out (by omega)]
theorem refAt_eq (w h : Int) (l : List Bool) (x y : Int) : barscanref31_At.f w h l x y = some (if Valid w h l.length then pix false w h l x y else false) := by
  unfold barscanref31_At.f
  rw [valid_eq]
  by_cases V : Valid w h l.length
  · have := at_eq V x y
    unfold raster_at.f at this
    simp only [decide_eq_true V, Option.bind_some, if_true, if_pos V]
    exact this
  · simp [V]
theorem At_eq (w h : Int) (l : List Bool) (x y : Int) : raster_At.f w h l x y = some (if Valid w h l.length then pix false w h l x y else false) := by
  unfold raster_At.f
  rw [check_eq]
  by_cases V : Valid w h l.length
  · rw [if_pos V, if_pos V, Option.bind_some, if_pos rfl, at_eq V]
    rfl
  · rw [if_neg V, if_neg V, Option.bind_some, if_neg (by decide)]

/-- A radius that is in range. -/
def Rad (r : Int) : Prop := 0 ≤ r ∧ r ≤ 4096
instance (r : Int) : Decidable (Rad r) := by unfold Rad; infer_instance
theorem bad_eq (r : Int) : morphology_check_1.f r = some (!decide (Rad r)) := by
  unfold morphology_check_1.f Rad
  by_cases h0 : r < 0
  · rw [if_pos h0]
    have : ¬ 0 ≤ r := by omega
    simp [this]
  · rw [if_neg h0]
    have h1 : 0 ≤ r := by omega
    by_cases h2 : r ≤ 4096
    · have : ¬ r > 4096 := by omega
      simp [h1, h2, this]
    · have : r > 4096 := by omega
      simp [h1, h2, this]
theorem contains_ok (l : List Int) (hl : l.length ≤ 1000) : Ev (fun k => slices_ContainsFunc_int_int.f k l 50) (!decide (∀ r ∈ l, Rad r)) := by
  unfold slices_ContainsFunc_int_int.f
  simp only [if_true]
  unfold slices_ContainsFunc_int_int_50.f slices_IndexFunc_int_int.f
  simp only [if_true]
  unfold slices_IndexFunc_int_int_50.f
  by_cases h : ∀ r ∈ l, Rad r
  · rw [decide_eq_true h]
    refine Ev.bind (a := -1) ?_ (Ev.now _)
    refine ev_loop (fun k i (_ : Unit) => slices_IndexFunc_int_int_50.l0 k l l.length i) 0 l.length (by omega) (fun _ _ => True) _ ?_ ?_ () trivial
    · intro i s hi0 hi hI K
      have hr : Rad (rd l i) := by
        have : rd l i = l[i.toNat]'(by omega) := by
          unfold rd
          rw [List.getD_eq_getElem?_getD, List.getElem?_eq_getElem (show i.toNat < l.length by omega)]
          rfl
        rw [this]
        exact h _ (List.getElem_mem _)
      refine Ev.step (f := fun k => slices_IndexFunc_int_int_50.l0 k l l.length (i + 1)) (fun k => ?_) (K () trivial)
      simp only [slices_IndexFunc_int_int_50.l0]
      rw [if_pos hi, if_pos hi0, if_pos hi, bad_eq, decide_eq_true hr, Option.bind_some, if_neg (by decide), w64 (n := i + 1) (by omega)]
    · intro s hI
      refine ev_end (fun k => ?_)
      simp only [slices_IndexFunc_int_int_50.l0]
      rw [if_neg (by omega)]
  · rw [decide_eq_false h]
    -- the first that is out of range is found
    have hex : ∃ n : Nat, (n < l.length ∧ ¬ Rad (rd l n)) ∧ ∀ m : Nat, m < n → Rad (rd l m) := by
      have h1 : ∃ n : Nat, n < l.length ∧ ¬ Rad (rd l n) := by
        simp only [Classical.not_forall] at h
        obtain ⟨r, hr, hn⟩ := h
        obtain ⟨n, hn1, hn2⟩ := List.mem_iff_getElem.1 hr
        refine ⟨n, hn1, ?_⟩
        unfold rd
        rw [List.getD_eq_getElem?_getD, Int.toNat_natCast, List.getElem?_eq_getElem hn1, Option.getD_some, hn2]
        exact hn
      obtain ⟨n, hn⟩ := h1
      induction n using Nat.strongRecOn with
      | _ n ih =>
        by_cases hall : ∀ m : Nat, m < n → Rad (rd l m)
        · exact ⟨n, hn, hall⟩
        · simp only [Classical.not_forall] at hall
          obtain ⟨m, hm1, hm2⟩ := hall
          exact ih m hm1 ⟨by omega, hm2⟩
    obtain ⟨n, ⟨hn1, hn2⟩, hn3⟩ := hex
    refine Ev.bind (a := (n : Int)) ?_ ?_
    · refine ev_loop (fun k i (_ : Unit) => slices_IndexFunc_int_int_50.l0 k l l.length i) 0 n (by omega) (fun _ _ => True) _ ?_ ?_ () trivial
      · intro i s hi0 hi hI K
        have hr := hn3 i.toNat (by omega)
        rw [Int.toNat_of_nonneg hi0] at hr
        refine Ev.step (f := fun k => slices_IndexFunc_int_int_50.l0 k l l.length (i + 1)) (fun k => ?_) (K () trivial)
        simp only [slices_IndexFunc_int_int_50.l0]
        rw [if_pos (by omega), if_pos hi0, if_pos (by omega), bad_eq, decide_eq_true hr, Option.bind_some, if_neg (by decide), w64 (n := i + 1) (by omega)]
      · intro s hI
        refine ev_end (fun k => ?_)
        simp only [slices_IndexFunc_int_int_50.l0]
        rw [if_pos (by omega), if_pos (by omega), if_pos (by omega), bad_eq, decide_eq_false hn2, Option.bind_some, if_pos (by decide)]
    · have : decide ((n : Int) ≥ 0) = true := decide_eq_true (by omega)
      rw [this]
      exact Ev.now _
theorem check2_ok (w h : Int) (l : List Bool) (r s : Int) : Ev (fun k => morphology_check.f k w h l [r, s]) (if Valid w h l.length then (if Rad r ∧ Rad s then 0 else 3) else 1) := by
  unfold morphology_check.f
  rw [check_eq]
  by_cases V : Valid w h l.length
  · simp only [if_pos V, Option.bind_some, if_true]
    refine Ev.bind (contains_ok [r, s] (by simp)) ?_
    by_cases R : Rad r ∧ Rad s
    · have : (∀ x ∈ [r, s], Rad x) := by simp [R]
      rw [decide_eq_true this, if_pos R]
      exact Ev.now _
    · have : ¬ (∀ x ∈ [r, s], Rad x) := by simpa using R
      rw [decide_eq_false this, if_neg R]
      exact Ev.now _
  · simp only [if_neg V, Option.bind_some, if_neg (show ¬ (1 : Int) = 0 by decide)]
    exact Ev.now _
theorem check1_ok (w h : Int) (l : List Bool) (r : Int) : Ev (fun k => morphology_check.f k w h l [r]) (if Valid w h l.length then (if Rad r then 0 else 3) else 1) := by
  unfold morphology_check.f
  rw [check_eq]
  by_cases V : Valid w h l.length
  · simp only [if_pos V, Option.bind_some, if_true]
    refine Ev.bind (contains_ok [r] (by simp)) ?_
    by_cases R : Rad r
    · have : (∀ x ∈ [r], Rad x) := by simp [R]
      rw [decide_eq_true this, if_pos R]
      exact Ev.now _
    · have : ¬ (∀ x ∈ [r], Rad x) := by simpa using R
      rw [decide_eq_false this, if_neg R]
      exact Ev.now _
  · simp only [if_neg V, Option.bind_some, if_neg (show ¬ (1 : Int) = 0 by decide)]
    exact Ev.now _
theorem check0_ok (w h : Int) (l : List Bool) : Ev (fun k => morphology_check.f k w h l []) (if Valid w h l.length then 0 else 1) := by
  unfold morphology_check.f
  rw [check_eq]
  by_cases V : Valid w h l.length
  · simp only [if_pos V, Option.bind_some, if_true]
    refine Ev.bind (contains_ok [] (by simp)) ?_
    exact Ev.now _
  · simp only [if_neg V, Option.bind_some, if_neg (show ¬ (1 : Int) = 0 by decide)]
    exact Ev.now _
theorem refCheck37_eq (w h : Int) (l : List Bool) (r s : Int) : barscanref37_check.f w h l r s = some (if Valid w h l.length then (if Rad r ∧ Rad s then 0 else 3) else 1) := by
  unfold barscanref37_check.f Rad
  rw [valid_eq]
  by_cases V : Valid w h l.length
  · rw [decide_eq_true V, Option.bind_some, if_pos rfl, if_pos V]
    by_cases h0 : r < 0
    · rw [if_pos h0, if_neg (by omega)]
    · rw [if_neg h0]
      by_cases h1 : r > 4096
      · rw [if_pos h1, if_neg (by omega)]
      · rw [if_neg h1]
        by_cases h2 : s < 0
        · rw [if_pos h2, if_neg (by omega)]
        · rw [if_neg h2]
          by_cases h3 : s > 4096
          · rw [if_pos h3, if_neg (by omega)]
          · rw [if_neg h3, if_pos (by omega)]
  · rw [decide_eq_false V, Option.bind_some, if_neg (by decide), if_neg V]
theorem examples_ok : Ev (fun k => barscanlaw37_examples.f k) true := Ev.of (g := fun k => barscanlaw37_examples.f k) (barscanlaw37_examples.mono) (k := 60) (by decide +kernel)
theorem same_self (w h : Int) (l : List Bool) (hl : l.length ≤ 4194304) : Ev (fun k => barscanlaw37_same.f k w h l w h l) true := by
  unfold barscanlaw37_same.f
  simp only [if_true]
  refine Ev.step (f := fun k => barscanlaw37_same.l0 k l.length 0 w h l w h l) (fun k => ?_) ?_
  · simp only [barscanlaw37_same.j0]
    rw [if_neg (by simp)]
  refine ev_loop (fun k i (_ : Unit) => barscanlaw37_same.l0 k l.length i w h l w h l) 0 l.length (by omega) (fun _ _ => True) _ ?_ ?_ () trivial
  · intro i s hi0 hi hI K
    refine Ev.step (f := fun k => barscanlaw37_same.l0 k l.length (i + 1) w h l w h l) (fun k => ?_) (K () trivial)
    simp only [barscanlaw37_same.l0]
    rw [if_pos hi, if_pos hi0, if_pos hi, if_pos hi, if_neg (by simp), w64 (n := i + 1) (by omega)]
  · intro s hI
    refine ev_end (fun k => ?_)
    simp only [barscanlaw37_same.l0]
    rw [if_neg (by omega)]
end Go.Proofs.Ytkakiblnhgpdnaa.Pure
