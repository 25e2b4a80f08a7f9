/-
Sums of neighbours, and the windows of a row. Conditions: as each theorem says.
-/
import Derived.Test.YtbipbbckfmilfaaXBase
import Derived.Test.YtbipbbckfmilfaaPRx3
namespace Go.Proofs.Ytbipbbckfmilfaa.Pure
set_option linter.unusedVariables false
set_option linter.unusedSimpArgs false
open Go.RowKit Go.Proofs.Ytbipbbckfmilfaa.PR Go.Proofs.YtbipbbckfmilfaaW.PrintWords Go.Proofs.YtbipbbckfmilfaaW.PrintLast Go.Proofs.YtbipbbckfmilfaaW.PrintMore Go.Proofs.Ytbipbbckfmilfaa.XWords Go.Proofs.Ytbipbbckfmilfaa.XPure

/-- The sum of n neighbours from a on. -/
def acc (f : Int → Int) (a : Int) : Nat → Int
  | 0 => 0
  | n + 1 => acc f a n + f (a + n)
theorem acc_congr {f g : Int → Int} {a : Int} : ∀ {n : Nat}, (∀ i, a ≤ i → i < a + n → f i = g i) → acc f a n = acc g a n
  | 0, _ => rfl
  | n + 1, h => by
    rw [acc, acc, acc_congr (n := n) (fun i h1 h2 => h i h1 (by omega)), h (a + n) (by omega) (by omega)]
theorem acc_zero {f : Int → Int} {a : Int} : ∀ {n : Nat}, (∀ i, a ≤ i → i < a + n → f i = 0) → acc f a n = 0
  | 0, _ => rfl
  | n + 1, h => by
    rw [acc, acc_zero (n := n) (fun i h1 h2 => h i h1 (by omega)), h (a + n) (by omega) (by omega)]; rfl
theorem acc_const (c a : Int) : ∀ n : Nat, acc (fun _ => c) a n = c * n
  | 0 => by simp [acc]
  | n + 1 => by
    rw [acc, acc_const c a n]
    have e : c * ((n + 1 : Nat) : Int) = c * n + c := by rw [Int.natCast_add, Int.mul_add]; simp
    omega
theorem acc_plus (f g : Int → Int) (a : Int) : ∀ n : Nat, acc (fun i => f i + g i) a n = acc f a n + acc g a n
  | 0 => rfl
  | n + 1 => by
    simp only [acc]
    rw [acc_plus f g a n]
    omega
theorem acc_split (f : Int → Int) (a : Int) (m : Nat) : ∀ n : Nat, acc f a (m + n) = acc f a m + acc f (a + m) n
  | 0 => by simp [acc]
  | n + 1 => by
    have e : a + ((m + n : Nat) : Int) = a + m + n := by omega
    rw [← Nat.add_assoc, acc, acc, acc_split f a m n, e]
    omega
theorem acc_shift (f : Int → Int) (a : Int) : ∀ n : Nat, acc f (a + 1) n = acc f a n + f (a + n) - f a
  | 0 => by simp [acc]
  | n + 1 => by
    have e : a + 1 + (n : Int) = a + ((n + 1 : Nat) : Int) := by omega
    rw [acc, acc, acc_shift f a n, e]
    omega
theorem acc_bound {f : Int → Int} {a lo hi : Int} (h : ∀ i, lo ≤ f i ∧ f i ≤ hi) : ∀ n : Nat, lo * n ≤ acc f a n ∧ acc f a n ≤ hi * n
  | 0 => by simp [acc]
  | n + 1 => by
    have h1 := acc_bound (a := a) h n
    have h2 := h (a + n)
    have e1 : lo * ((n + 1 : Nat) : Int) = lo * n + lo := by rw [Int.natCast_add, Int.mul_add]; simp
    have e2 : hi * ((n + 1 : Nat) : Int) = hi * n + hi := by rw [Int.natCast_add, Int.mul_add]; simp
    rw [acc, e1, e2]
    omega
/-- A row with a colour outside. -/
def ext (l : List Int) (z i : Int) : Int := if 0 ≤ i ∧ i < (l.length : Int) then l.getD i.toNat 0 else z
theorem ext_in {l : List Int} {z i : Int} (h0 : 0 ≤ i) (h1 : i < (l.length : Int)) : rd l i = ext l z i := by rw [ext, if_pos ⟨h0, h1⟩]; rfl
theorem ext_out {l : List Int} {z i : Int} (h : ¬ (0 ≤ i ∧ i < (l.length : Int))) : ext l z i = z := if_neg h
theorem getD_set' {α : Type} (l : List α) (i j : Nat) (x d : α) (hi : i < l.length) : (l.set i x).getD j d = if j = i then x else l.getD j d := by
  simp only [List.getD_eq_getElem?_getD, List.getElem?_set]
  by_cases h : i = j
  · subst h
    rw [if_pos rfl, if_pos hi, if_pos rfl]
    rfl
  · rw [if_neg h, if_neg (fun hh => h hh.symm)]
theorem eq_map_of {α : Type} {n : Nat} {l : List α} {g : Int → α} {d : α} (hl : l.length = n) (h : ∀ j : Nat, j < n → l.getD j d = g j) : l = (List.range n).map fun i : Nat => g i := by
  apply List.ext_getElem?
  intro i
  by_cases hi : i < n
  · have h1 := h i hi
    rw [List.getD_eq_getElem?_getD, List.getElem?_eq_getElem (show i < l.length by omega), Option.getD_some] at h1
    rw [List.getElem?_map, List.getElem?_range hi, List.getElem?_eq_getElem (show i < l.length by omega), h1, Option.map_some]
  · rw [List.getElem?_eq_none (by omega), List.getElem?_eq_none (by simp; omega)]
/-- The sums of the windows of a row. -/
def wins (l : List Int) (r z : Int) : List Int := (List.range l.length).map fun i : Nat => acc (ext l z) ((i : Int) - r) (2 * r + 1).toNat
theorem wins_length (l : List Int) (r z : Int) : (wins l r z).length = l.length := by simp [wins]
theorem wins_getD {l : List Int} {r z : Int} {j : Nat} (h : j < l.length) : (wins l r z).getD j 0 = acc (ext l z) ((j : Int) - r) (2 * r + 1).toNat := by
  unfold wins
  rw [List.getD_eq_getElem?_getD, List.getElem?_map, List.getElem?_range h, Option.map_some, Option.getD_some]

theorem window_ok {l : List Int} {r z B : Int} (hr0 : 0 ≤ r) (hr : r ≤ 64) (hl : l.length ≤ 4096) (hB : B ≤ 100000) (hx : ∀ i, 0 ≤ ext l z i ∧ ext l z i ≤ B) :
    Ev (fun k => printing_window.f k l r z) (wins l r z) := by
  unfold printing_window.f
  have hz : 0 ≤ z ∧ z ≤ B := by have := hx (-1); rwa [ext, if_neg (by omega)] at this
  have hB0 : 0 ≤ B := by omega
  simp only [if_pos (show (0 : Int) ≤ (l.length : Int) by omega), if_pos (show ((l.length : Int)).toNat ≤ 35184372088832 by omega)]
  have hNi : (((2 * r + 1).toNat : Nat) : Int) = 2 * r + 1 := by omega
  have hN2 : (2 * r + 1).toNat ≤ 129 := by omega
  unfold wins
  generalize (2 * r + 1).toNat = N at hNi hN2
  have hb : ∀ a, 0 ≤ acc (ext l z) a N ∧ acc (ext l z) a N ≤ 12900000 := fun a => by
    have h := acc_bound (a := a) hx N
    have h2 : B * (N : Int) ≤ 100000 * 129 := Int.mul_le_mul hB (by omega) (by omega) (by omega)
    omega
  have hz2 : 0 ≤ (2 * r + 1) * z ∧ (2 * r + 1) * z ≤ 129 * 100000 := ⟨Int.mul_nonneg (by omega) hz.1, Int.mul_le_mul (by omega) (by omega) hz.1 (by omega)⟩
  rw [w64 (n := 2 * r) (by omega), w64 (n := 2 * r + 1) (by omega), w64 (n := (2 * r + 1) * z) (by omega), w64 (n := -r) (by omega)]
  refine ev_loop (fun k i (s : Int × List Int) => printing_window.l0 k l r z s.2 s.1 i) (-r) ((l.length : Int) + r) (by omega)
    (fun i s => s.1 = acc (ext l z) (i - 1 - r) N ∧ s.2.length = l.length ∧ ∀ j : Nat, j < l.length → (j : Int) < i → s.2.getD j 0 = acc (ext l z) ((j : Int) - r) N) _ ?_ ?_
    ((2 * r + 1) * z, List.replicate ((l.length : Int)).toNat 0) ?_
  · rintro i ⟨s, out⟩ hi hlt ⟨hs, ho, hd⟩ K
    simp only at hs ho hd
    show Ev (fun k => printing_window.l0 k l r z out s i) _
    have hs0 := hb (i - 1 - r)
    rw [← hs] at hs0
    have ha := hx (i + r)
    have hc := hx (i - r - 1)
    have hsh := acc_shift (ext l z) (i - 1 - r) N
    have e1 : i - 1 - r + 1 = i - r := by omega
    have e2 : i - 1 - r + (N : Int) = i + r := by omega
    have e3 : i - 1 - r = i - r - 1 := by omega
    rw [e1, e2, ← hs] at hsh
    rw [e3] at hsh
    refine Ev.step (f := fun k => printing_window.j1 k l r z out (s + (ext l z (i + r) - z)) i) (fun k => ?_) ?_
    · simp only [printing_window.l0]
      rw [w64 (n := (l.length : Int) + r) (by omega), if_pos hlt, w64 (n := i + r) (by omega)]
      by_cases hin : i + r < (l.length : Int)
      · rw [if_pos hin, if_pos (by omega), ext_in (z := z) (by omega) hin, w64 (n := ext l z (i + r) - z) (by omega), w64 (n := s + (ext l z (i + r) - z)) (by omega)]
      · rw [if_neg hin, ext_out (by omega)]
        have : s + (z - z) = s := by omega
        rw [this]
    refine Ev.step (f := fun k => printing_window.j2 k l r z out (s + (ext l z (i + r) - z)) i (i - r - 1) (decide (0 ≤ i - r - 1 ∧ i - r - 1 < (l.length : Int)))) (fun k => ?_) ?_
    · simp only [printing_window.j1]
      rw [w64 (n := i - r) (by omega), w64 (n := i - r - 1) (by omega)]
      by_cases h0 : i - r - 1 ≥ 0
      · rw [if_pos h0]
        have h0' : 0 ≤ i - r - 1 := h0
        simp only [h0', true_and]
      · rw [if_neg h0]
        have : decide (0 ≤ i - r - 1 ∧ i - r - 1 < (l.length : Int)) = false := decide_eq_false (by omega)
        rw [this]
    have hs2 : s + (ext l z (i + r) - z) + (z - ext l z (i - r - 1)) = acc (ext l z) (i - r) N := by omega
    refine Ev.step (f := fun k => printing_window.l0 k l r z (if 0 ≤ i ∧ i < (l.length : Int) then out.set i.toNat (acc (ext l z) (i - r) N) else out) (acc (ext l z) (i - r) N) (i + 1)) (fun k => ?_) (K (_, _) ⟨?_, ?_, ?_⟩)
    · simp only [printing_window.j2]
      by_cases hin : 0 ≤ i - r - 1 ∧ i - r - 1 < (l.length : Int)
      · rw [decide_eq_true hin, if_pos rfl, if_pos hin.1, if_pos hin.2, ext_in (z := z) hin.1 hin.2, w64 (n := z - ext l z (i - r - 1)) (by omega), w64 (n := s + (ext l z (i + r) - z) + (z - ext l z (i - r - 1))) (by omega), hs2, w64 (n := i + 1) (by omega)]
        by_cases hi0 : 0 ≤ i
        · by_cases hi1 : i < (l.length : Int)
          · rw [if_pos hi0, if_pos hi1, if_pos hi0, if_pos (by omega), if_pos ⟨hi0, hi1⟩]
          · rw [if_pos hi0, if_neg hi1, if_neg (show ¬ (0 ≤ i ∧ i < (l.length : Int)) by omega)]
        · rw [if_neg hi0, if_neg (show ¬ (0 ≤ i ∧ i < (l.length : Int)) by omega)]
      · have hs3 : s + (ext l z (i + r) - z) = acc (ext l z) (i - r) N := by rw [ext_out hin] at hs2; omega
        rw [decide_eq_false hin, if_neg (by decide), hs3, w64 (n := i + 1) (by omega)]
        by_cases hi0 : 0 ≤ i
        · by_cases hi1 : i < (l.length : Int)
          · rw [if_pos hi0, if_pos hi1, if_pos hi0, if_pos (by omega), if_pos ⟨hi0, hi1⟩]
          · rw [if_pos hi0, if_neg hi1, if_neg (show ¬ (0 ≤ i ∧ i < (l.length : Int)) by omega)]
        · rw [if_neg hi0, if_neg (show ¬ (0 ≤ i ∧ i < (l.length : Int)) by omega)]
    · show acc (ext l z) (i - r) N = acc (ext l z) (i + 1 - 1 - r) N
      have : i + 1 - 1 - r = i - r := by omega
      rw [this]
    · show (if 0 ≤ i ∧ i < (l.length : Int) then out.set i.toNat (acc (ext l z) (i - r) N) else out).length = l.length
      split
      · rw [List.length_set, ho]
      · exact ho
    · intro j hj hji
      show (if 0 ≤ i ∧ i < (l.length : Int) then out.set i.toNat (acc (ext l z) (i - r) N) else out).getD j 0 = _
      by_cases hin : 0 ≤ i ∧ i < (l.length : Int)
      · rw [if_pos hin, getD_set' _ _ _ _ _ (by omega)]
        by_cases he : j = i.toNat
        · rw [if_pos he]
          have : (j : Int) = i := by omega
          rw [this]
        · rw [if_neg he]
          exact hd j hj (by omega)
      · rw [if_neg hin]
        exact hd j hj (by omega)
  · rintro ⟨s, out⟩ ⟨hs, ho, hd⟩
    simp only at hs ho hd
    refine ev_end (fun k => ?_)
    simp only [printing_window.l0]
    rw [w64 (n := (l.length : Int) + r) (by omega), if_neg (by omega)]
    exact congrArg some (eq_map_of (d := 0) (g := fun i => acc (ext l z) (i - r) N) ho (fun j hj => hd j hj (by omega)))
  · refine ⟨?_, by simp, fun j hj hji => by omega⟩
    show (2 * r + 1) * z = _
    rw [acc_congr (g := fun _ => z) (fun i h1 h2 => ext_out (by omega)), acc_const, hNi, Int.mul_comm]
end Go.Proofs.Ytbipbbckfmilfaa.Pure
