/-
MorphologyMonotony, over numbers and rows alone: more dark pixels give results with more dark pixels. Conditions: none.
-/
import Derived.Test.YtkakiblnhgpdnaaStmtMorphologyMonotony
import Derived.Test.YtkakiblnhgpdnaaXWithin
namespace Go.Proofs.Ytkakiblnhgpdnaa.Pure
set_option linter.unusedVariables false
set_option linter.unusedSimpArgs false
open Go.RowKit Go.Proofs.Ytkakiblnhgpdnaa.PR Go.Proofs.YtkakiblnhgpdnaaW.PrintWords Go.Proofs.YtkakiblnhgpdnaaW.PrintLast Go.Proofs.YtkakiblnhgpdnaaW.PrintMore Go.Proofs.Ytkakiblnhgpdnaa.XWords Go.Proofs.Ytkakiblnhgpdnaa.XPure
theorem acc_le {f g : Int → Int} {a : Int} (h : ∀ i, f i ≤ g i) : ∀ n : Nat, acc f a n ≤ acc g a n
  | 0 => by simp [acc]
  | n + 1 => by
    have h1 := acc_le (a := a) h n
    have h2 := h (a + n)
    simp only [acc]
    omega
theorem bit_le {a b : Bool} (h : a = true → b = true) : bit a ≤ bit b := by
  unfold bit
  cases a <;> cases b <;> simp_all
theorem around_le {D E : Int → Int → Bool} (h : ∀ u v, D u v = true → E u v = true) (r s x y : Int) : around D r s x y ≤ around E r s x y := by
  unfold around cnt
  exact acc_le (fun v => acc_le (fun u => bit_le (h u v)) _) _
theorem whole_mono {r s : Int} {P Q : Int → Int → Prop} (h : ∀ u v, P u v → Q u v) {x y : Int} (hp : Whole r s P x y) : Whole r s Q x y := fun u v a b c d => h u v (hp u v a b c d)
theorem part_mono {r s : Int} {P Q : Int → Int → Prop} (h : ∀ u v, P u v → Q u v) {x y : Int} (hp : Part r s P x y) : Part r s Q x y := by
  obtain ⟨u, v, a, b, c, d, e⟩ := hp
  exact ⟨u, v, a, b, c, d, h u v e⟩
/-- What an operation answers for two bitmaps of one size: the one result lies within the other. -/
def Grows (F G : Nat → Option (Int × Int × List Bool × Int)) : Prop := ∃ (u v : Int) (L M : List Bool) (e f : Int), Ev F (u, v, L, e) ∧ Ev G (u, v, M, f) ∧ Ev (fun k => barscanlaw37_within.f k u v L u v M) true
theorem grows_bad {F G : Nat → Option (Int × Int × List Bool × Int)} {e f : Int} (hF : Ev F (0, 0, [], e)) (hG : Ev G (0, 0, [], f)) : Grows F G := ⟨0, 0, [], [], e, f, hF, hG, within_ok (by simp) rfl (fun j hj => by simp at hj)⟩
theorem grows_good {w h : Int} {l : List Bool} (V : Valid w h l.length) {F G : Nat → Option (Int × Int × List Bool × Int)} {P Q : Int → Int → Prop} (hF : ∃ L, Shows w h L P ∧ Ev F (w, h, L, 0)) (hG : ∃ L, Shows w h L Q ∧ Ev G (w, h, L, 0)) (e : ∀ x y, P x y → Q x y) : Grows F G := by
  obtain ⟨L, hL, hF⟩ := hF
  obtain ⟨M, hM, hG⟩ := hG
  exact ⟨w, h, L, M, 0, 0, hF, hG, within_shows V.1.1 hL hM (by have := hL.len; have := V.1.2.2.2.2; omega) (fun x y _ _ _ _ hp => e x y hp)⟩
theorem majority_shows {w h : Int} {l : List Bool} {r : Int} (V : Valid w h l.length) (hr : Rad r) : ∃ L, Shows w h L (fun x y => 2 * around (pix false w h l) r r x y > (2 * r + 1) * (2 * r + 1)) ∧ Ev (fun k => morphology_Majority.f k w h l r) (w, h, L, 0) := by
  have hE := majority_ok V hr
  refine ⟨_, ?_, hE⟩
  refine shows_upto V.1.1 V.1.2.2.1 (fun x y a b c d => ?_)
  rw [Int.add_zero, Int.add_zero, fence_in a b c d, decide_eq_true_iff]
section
variable {w h : Int} {l m : List Bool} {r s : Int}
theorem ops_grow (hlen : m.length = l.length) (hd : ∀ j : Nat, l.getD j false = true → m.getD j false = true) :
    Grows (fun k => morphology_Erode.f k w h l r s) (fun k => morphology_Erode.f k w h m r s) ∧ Grows (fun k => morphology_Dilate.f k w h l r s) (fun k => morphology_Dilate.f k w h m r s) ∧
    Grows (fun k => morphology_Open.f k w h l r s) (fun k => morphology_Open.f k w h m r s) ∧ Grows (fun k => morphology_Close.f k w h l r s) (fun k => morphology_Close.f k w h m r s) ∧
    Grows (fun k => morphology_Majority.f k w h l r) (fun k => morphology_Majority.f k w h m r) := by
  have hpix : ∀ u v, pix false w h l u v = true → pix false w h m u v = true := fun u v hp => by
    unfold pix at hp ⊢
    split at hp
    · rename_i hc
      rw [if_pos hc]
      exact hd _ hp
    · cases hp
  have hdk : ∀ u v, Dk w h l u v → Dk w h m u v := hpix
  have hmaj : Grows (fun k => morphology_Majority.f k w h l r) (fun k => morphology_Majority.f k w h m r) := by
    by_cases O : Valid w h l.length ∧ Rad r
    · obtain ⟨V, R⟩ := O
      have V2 : Valid w h m.length := hlen ▸ V
      exact grows_good V (majority_shows V R) (majority_shows V2 R) (fun x y hp => by have := around_le hpix r r x y; omega)
    · have O2 : ¬ (Valid w h m.length ∧ Rad r) := by rw [hlen]; exact O
      exact grows_bad (majority_bad O) (majority_bad O2)
  by_cases O : Valid w h l.length ∧ Rad r ∧ Rad s
  · obtain ⟨V, R, S⟩ := O
    have V2 : Valid w h m.length := hlen ▸ V
    exact ⟨grows_good V (erode_ok V R S) (erode_ok V2 R S) (fun x y hp => whole_mono hdk hp), grows_good V (dilate_ok V R S) (dilate_ok V2 R S) (fun x y hp => part_mono hdk hp),
      grows_good V (open_ok V R S) (open_ok V2 R S) (fun x y hp => part_mono (fun u v hq => whole_mono hdk hq) hp), grows_good V (close_ok V R S) (close_ok V2 R S) (fun x y hp => whole_mono (fun u v hq => part_mono hdk hq) hp), hmaj⟩
  · have O2 : ¬ (Valid w h m.length ∧ Rad r ∧ Rad s) := by rw [hlen]; exact O
    have a := op_bad (l := l) O
    have b := op_bad (l := m) O2
    exact ⟨grows_bad a.1 b.1, grows_bad a.2.1 b.2.1, grows_bad a.2.2.1 b.2.2.1, grows_bad a.2.2.2 b.2.2.2, hmaj⟩
end
theorem many_ok (xs ys : List S24) (hl : ys.length = xs.length) (hn : xs.length ≤ 100) (H : ∀ i : Int, 0 ≤ i → i < xs.length → Ev (fun k => barscanlaw37_within.f k (rd_T24 xs i).f0 (rd_T24 xs i).f1 (rd_T24 xs i).f2 (rd_T24 ys i).f0 (rd_T24 ys i).f1 (rd_T24 ys i).f2) true) :
    Ev (fun k => barscanlaw37_MorphologyMonotony.l1 k xs ys xs.length 0) true := by
  have he : Ev (fun k => (barscanlaw37_examples.f k).bind fun t => some t) true := Ev.bind examples_ok (Ev.now _)
  refine ev_loop (fun k i (_ : Unit) => barscanlaw37_MorphologyMonotony.l1 k xs ys xs.length i) 0 xs.length (by omega) (fun _ _ => True) _ ?_ ?_ () trivial
  · intro i s hi0 hi hI K
    refine Ev.step (f := fun k => (barscanlaw37_within.f k (rd_T24 xs i).f0 (rd_T24 xs i).f1 (rd_T24 xs i).f2 (rd_T24 ys i).f0 (rd_T24 ys i).f1 (rd_T24 ys i).f2).bind fun t => if t = true then barscanlaw37_MorphologyMonotony.l1 k xs ys xs.length (i + 1) else none) (fun k => ?_) (Ev.bind (H i hi0 hi) ?_)
    · simp only [barscanlaw37_MorphologyMonotony.l1]
      rw [if_pos hi, if_pos hi0, if_pos hi, if_pos (by omega), w64 (n := i + 1) (by omega)]
    · simp only [if_true]
      exact K () trivial
  · intro s hI
    refine Ev.step (f := fun k => (barscanlaw37_examples.f k).bind fun t => some t) (fun k => ?_) he
    simp only [barscanlaw37_MorphologyMonotony.l1]
    rw [if_neg (by omega)]
theorem rd_mem {l : List Int} {i : Int} (h0 : 0 ≤ i) (h1 : i < l.length) : rd l i ∈ l := by
  have : rd l i = l[i.toNat]'(by omega) := by
    unfold rd
    rw [List.getD_eq_getElem?_getD, List.getElem?_eq_getElem (show i.toNat < l.length by omega)]
    rfl
  rw [this]
  exact List.getElem_mem _
theorem MorphologyMonotony : barscanlaw37_MorphologyMonotony.Pure := by
  intro w h l ps r s hw hh hl hps hpu hr hs
  refine Ev.rounds (g := fun k => barscanlaw37_MorphologyMonotony.f k w h l ps r s) ?_
  have he : Ev (fun k => (barscanlaw37_examples.f k).bind fun t => some t) true := Ev.bind examples_ok (Ev.now _)
  unfold barscanlaw37_MorphologyMonotony.f
  by_cases B : (l.length : Int) > 1000
  · simp only [if_pos B]
    exact he
  simp only [if_neg B]
  by_cases B2 : (l.length : Int) = 0
  · simp only [if_pos B2]
    exact he
  simp only [if_neg B2]
  by_cases B3 : (ps.length : Int) > 100
  · simp only [if_pos B3]
    exact he
  simp only [if_neg B3, Option.bind_some, List.nil_append, List.length_nil]
  simp only [if_pos (show 0 + l.length < 140737488355328 by omega)]
  refine ev_loop (fun k i m => barscanlaw37_MorphologyMonotony.l0 k r s ps ps.length i w h l w h m) 0 ps.length (by omega) (fun _ m => m.length = l.length ∧ ∀ j : Nat, l.getD j false = true → m.getD j false = true) _ ?_ ?_ _ ⟨rfl, fun j hj => hj⟩
  · rintro i m hi0 hi ⟨hm, hd⟩ K
    have hu := wf_u16 (hpu _ (rd_mem hi0 hi))
    have m0 := Int.emod_nonneg (rd ps i) (show ((m.length : Nat) : Int) ≠ 0 by omega)
    have m1 := Int.emod_lt_of_pos (rd ps i) (show 0 < ((m.length : Nat) : Int) by omega)
    refine Ev.step (f := fun k => barscanlaw37_MorphologyMonotony.l0 k r s ps ps.length (i + 1) w h l w h (m.set (rd ps i % (m.length : Int)).toNat true)) (fun k => ?_) (K _ ⟨by rw [List.length_set]; exact hm, fun j hj => ?_⟩)
    · simp only [barscanlaw37_MorphologyMonotony.l0]
      rw [if_pos hi, if_pos hi0, if_pos hi, if_neg (by omega), w64 (n := rd ps i) (by omega), Int.tmod_eq_emod_of_nonneg hu.1, if_pos m0, if_pos m1, w64 (n := i + 1) (by omega)]
    · have h1 := hd j hj
      rw [List.getD_eq_getElem?_getD, List.getElem?_set]
      by_cases hc : (rd ps i % (m.length : Int)).toNat = j
      · rw [if_pos hc, if_pos (by omega)]
        rfl
      · rw [if_neg hc, ← List.getD_eq_getElem?_getD]
        exact h1
  · rintro m ⟨hm, hd⟩
    obtain ⟨⟨u1, v1, L1, M1, e1, f1, a1, b1, c1⟩, ⟨u2, v2, L2, M2, e2, f2, a2, b2, c2⟩, ⟨u3, v3, L3, M3, e3, f3, a3, b3, c3⟩, ⟨u4, v4, L4, M4, e4, f4, a4, b4, c4⟩, ⟨u5, v5, L5, M5, e5, f5, a5, b5, c5⟩⟩ := ops_grow (w := w) (h := h) (r := r) (s := s) hm hd
    have o1 : Ev (fun k => barscanlaw37_operations.f k w h l r s) [⟨u1, v1, L1⟩, ⟨u2, v2, L2⟩, ⟨u3, v3, L3⟩, ⟨u4, v4, L4⟩, ⟨u5, v5, L5⟩] := by
      unfold barscanlaw37_operations.f
      exact Ev.bind a1 (Ev.bind a2 (Ev.bind a3 (Ev.bind a4 (Ev.bind a5 (Ev.now _)))))
    have o2 : Ev (fun k => barscanlaw37_operations.f k w h m r s) [⟨u1, v1, M1⟩, ⟨u2, v2, M2⟩, ⟨u3, v3, M3⟩, ⟨u4, v4, M4⟩, ⟨u5, v5, M5⟩] := by
      unfold barscanlaw37_operations.f
      exact Ev.bind b1 (Ev.bind b2 (Ev.bind b3 (Ev.bind b4 (Ev.bind b5 (Ev.now _)))))
    refine Ev.step (f := fun k => (barscanlaw37_operations.f k w h l r s).bind fun t713 => (barscanlaw37_operations.f k w h m r s).bind fun t716 => barscanlaw37_MorphologyMonotony.l1 k t713 t716 (t713.length : Int) 0) (fun k => ?_) (Ev.bind o1 (Ev.bind o2 (many_ok _ _ rfl (by simp) ?_)))
    · simp only [barscanlaw37_MorphologyMonotony.l0]
      rw [if_neg (by omega)]
    · intro i hi0 hi
      have hi5 : i < 5 := hi
      obtain rfl | rfl | rfl | rfl | rfl : i = 0 ∨ i = 1 ∨ i = 2 ∨ i = 3 ∨ i = 4 := by omega
      · exact c1
      · exact c2
      · exact c3
      · exact c4
      · exact c5
end Go.Proofs.Ytkakiblnhgpdnaa.Pure
