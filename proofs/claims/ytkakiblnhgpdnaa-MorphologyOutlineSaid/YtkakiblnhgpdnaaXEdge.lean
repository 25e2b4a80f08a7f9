/-
Outline and its reference, told by pixels. Conditions: as each theorem says.
-/
import Derived.Test.YtkakiblnhgpdnaaXOps
import Derived.Test.YtkakiblnhgpdnaaPRx8
namespace Go.Proofs.Ytkakiblnhgpdnaa.Pure
set_option linter.unusedVariables false
set_option linter.unusedSimpArgs false
open Go.RowKit Go.Proofs.Ytkakiblnhgpdnaa.PR Go.Proofs.YtkakiblnhgpdnaaW.PrintWords Go.Proofs.YtkakiblnhgpdnaaW.PrintLast Go.Proofs.YtkakiblnhgpdnaaW.PrintMore Go.Proofs.Ytkakiblnhgpdnaa.XWords Go.Proofs.Ytkakiblnhgpdnaa.XPure
/-- Whether all four neighbours are dark. -/
def inn (w h : Int) (l : List Bool) (x y : Int) : Bool := pix false w h l (x - 1) y && (pix false w h l (x + 1) y && (pix false w h l x (y - 1) && pix false w h l x (y + 1)))
theorem four_eq (b1 b2 b3 b4 : Bool) : ((some b1).bind fun t1 => if t1 = true then ((some b2).bind fun t2 => if t2 = true then ((some b3).bind fun t3 => if t3 = true then some b4 else some false) else some false) else some false) = some (b1 && (b2 && (b3 && b4))) := by
  cases b1 <;> cases b2 <;> cases b3 <;> rfl
theorem inner_eq {w h : Int} {l : List Bool} (V : Valid w h l.length) {n : Nat} (hn : n < l.length) : morphology_Outline.inner w h l n = some (inn w h l ((n : Int) % w) ((n : Int) / w)) := by
  obtain ⟨G1, G2, G3, G4, G5⟩ := id V.1
  have hl := V.2
  have m0 := Int.emod_nonneg (n : Int) (show w ≠ 0 by omega)
  have m1 := Int.emod_lt_of_pos (n : Int) (show 0 < w by omega)
  have m2 : 0 ≤ (n : Int) / w := Int.ediv_nonneg (by omega) (by omega)
  have m3 : (n : Int) / w < h := div_lt (by omega) (by omega)
  unfold morphology_Outline.inner inn
  rw [w64 (n := (n : Int) % w - 1) (by omega), w64 (n := (n : Int) % w + 1) (by omega), w64 (n := (n : Int) / w - 1) (by omega), w64 (n := (n : Int) / w + 1) (by omega), At_eq, At_eq, At_eq, At_eq, if_pos V, if_pos V, if_pos V, if_pos V]
  exact four_eq _ _ _ _
theorem fold_getD (g : Nat → Bool) : ∀ (ns : List Nat) (z : List Bool) (j : Nat), j < z.length → (ns.foldl (fun out n => out.set n (g n)) z).getD j false = if j ∈ ns then g j else z.getD j false
  | [], z, j, h => by simp
  | n :: ns, z, j, h => by
    rw [List.foldl_cons, fold_getD g ns _ j (by rw [List.length_set]; exact h)]
    by_cases hm : j ∈ ns
    · rw [if_pos hm, if_pos (by simp [hm])]
    · rw [if_neg hm]
      by_cases he : j = n
      · subst he
        rw [if_pos (by simp)]
        simp [h]
      · rw [if_neg (by simp [hm, he])]
        simp [List.getElem?_set, Ne.symm he]
theorem fold_length (g : Nat → Bool) : ∀ (ns : List Nat) (z : List Bool), (ns.foldl (fun out n => out.set n (g n)) z).length = z.length
  | [], z => rfl
  | n :: ns, z => by rw [List.foldl_cons, fold_length g ns, List.length_set]
theorem mem_darks (l : List Bool) : ∀ (k n : Nat), n ∈ XPixels.darks l k ↔ n < k ∧ l.getD n false = true
  | 0, n => by simp [XPixels.darks]
  | k + 1, n => by
    rw [XPixels.darks, List.mem_append, mem_darks l k n]
    constructor
    · rintro (⟨h1, h2⟩ | h)
      · exact ⟨by omega, h2⟩
      · split at h
        · rename_i hd
          rw [List.mem_singleton] at h
          subst h
          exact ⟨by omega, hd⟩
        · cases h
    · rintro ⟨h1, h2⟩
      by_cases he : n = k
      · subst he
        right
        rw [if_pos h2]
        simp
      · exact Or.inl ⟨by omega, h2⟩
theorem outline_ok {w h : Int} {l : List Bool} (V : Valid w h l.length) : ∃ L, Shows w h L (fun x y => Dk w h l x y ∧ ¬ inn w h l x y = true) ∧ Ev (fun k => morphology_Outline.f k w h l) (w, h, L, 0) := by
  obtain ⟨G1, G2, G3, G4, G5⟩ := id V.1
  have hl := V.2
  have hp : 1 * 1 ≤ w * h := Int.mul_le_mul G1 G3 (by omega) (by omega)
  have hc := check0_ok w h l
  rw [if_pos V] at hc
  have hE : Ev (fun k => morphology_Outline.f k w h l) (w, h, morphology_Outline.run w h l (XPixels.darks l l.length), 0) := by
    unfold morphology_Outline.f
    refine Ev.bind hc ?_
    simp only [if_true]
    rw [if_pos ⟨by omega, by omega⟩, if_pos ?_]
    · exact Ev.now _
    · rw [List.all_eq_true]
      intro n hn
      rw [inner_eq V (List.mem_range.1 hn)]
      rfl
  refine ⟨_, ⟨?_, fun x y a b c d => ?_⟩, hE⟩
  · unfold morphology_Outline.run
    rw [fold_length (fun n => !((morphology_Outline.inner w h l n).getD false)), List.length_replicate]
    omega
  · obtain ⟨s1, s2, s3, s4, s5, s6, s7⟩ := V.spot a b c d
    unfold morphology_Outline.run
    have hj : (y * w + x).toNat < l.length := by omega
    rw [fold_getD (fun n => !((morphology_Outline.inner w h l n).getD false)) _ _ _ (by rw [List.length_replicate]; omega), getD_replicate]
    have hm := mem_darks l l.length (y * w + x).toNat
    have e1 : (((y * w + x).toNat : Nat) : Int) % w = x := by rw [Int.toNat_of_nonneg s4]; exact row_mod a b
    have e2 : (((y * w + x).toNat : Nat) : Int) / w = y := by rw [Int.toNat_of_nonneg s4]; exact row_div a b
    unfold Dk
    rw [pix_in a b c d]
    by_cases hd : l.getD (y * w + x).toNat false = true
    · rw [if_pos (hm.2 ⟨hj, hd⟩), inner_eq V hj, e1, e2, hd]
      cases inn w h l x y <;> simp
    · rw [if_neg (fun hh => hd (hm.1 hh).2)]
      exact ⟨fun hh => (by cases hh), fun hh => absurd hh.1 hd⟩
theorem outline_bad {w h : Int} {l : List Bool} (B : ¬ Valid w h l.length) : Ev (fun k => morphology_Outline.f k w h l) (0, 0, [], 1) := by
  have hc := check0_ok w h l
  rw [if_neg B] at hc
  unfold morphology_Outline.f
  exact Ev.bind hc (Ev.now _)
end Go.Proofs.Ytkakiblnhgpdnaa.Pure
