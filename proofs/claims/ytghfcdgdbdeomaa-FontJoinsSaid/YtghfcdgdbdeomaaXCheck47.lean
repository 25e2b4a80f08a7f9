/-
The check of a line of text, and Width. Conditions: the string's length as each theorem says.
-/
import Derived.Test.YtghfcdgdbdeomaaXBase47
import Derived.Test.YtghfcdgdbdeomaaPRx5
import Derived.Test.YtghfcdgdbdeomaaPRx7
namespace Go.Proofs.Ytghfcdgdbdeomaa.Pure
set_option linter.unusedVariables false
set_option linter.unusedSimpArgs false
open Go.RowKit Go.Proofs.Ytghfcdgdbdeomaa.PR Go.Proofs.YtghfcdgdbdeomaaW.PrintWords Go.Proofs.YtghfcdgdbdeomaaW.PrintLast Go.Proofs.YtghfcdgdbdeomaaW.PrintMore Go.Proofs.Ytghfcdgdbdeomaa.XWords Go.Proofs.Ytghfcdgdbdeomaa.XPure

/-- All bytes of a string are in the font. -/
def allOk (s : ByteArray) : Prop := ∀ i : Nat, i < s.size → ok (bt s i) = true
instance (s : ByteArray) : Decidable (allOk s) := by unfold allOk; infer_instance
/-- The error of a line of text with a scale. -/
def chk (s : ByteArray) (sc : Int) : Int := if s.size = 0 then 5 else if ¬ allOk s then 6 else if sc < 1 ∨ sc > 64 then 3 else if (6 * (s.size : Int) - 1) * sc > 4096 then 4 else 0
theorem w64_len {s : ByteArray} (hs : s.size ≤ 140737488351232) : wrap64 ((wrap64 (6 * (s.size : Int))) - 1) = 6 * (s.size : Int) - 1 := by
  rw [w64 (n := 6 * (s.size : Int)) (by omega), w64 (by omega)]
theorem w64_width {s : ByteArray} (hs : s.size ≤ 140737488351232) {sc : Int} (h1 : 1 ≤ sc) (h2 : sc ≤ 64) : wrap64 ((6 * (s.size : Int) - 1) * sc) = (6 * (s.size : Int) - 1) * sc := by
  have a : (6 * (s.size : Int) - 1) * sc ≤ (6 * 140737488351232) * 64 := Int.mul_le_mul (by omega) h2 (by omega) (by omega)
  have b : (-1) * 64 ≤ (6 * (s.size : Int) - 1) * sc := by
    by_cases h : s.size = 0
    · rw [h]; omega
    · have : 0 ≤ (6 * (s.size : Int) - 1) * sc := Int.mul_nonneg (by omega) (by omega)
      omega
  exact w64 (by omega)
theorem rn_le (s : ByteArray) (i : Int) : XIter.rn s i ≤ 2147483647 := by
  unfold XIter.rn
  have := decode_le s i.toNat
  omega
theorem inFont_low {c : Int} (h : Byte c) (hc : c < 128) : Ev (fun k => font_inFont.f k c) (ok c) := by
  unfold font_inFont.f
  simp only [if_neg (show ¬ c > 127 by omega), Int.emod_eq_of_lt h.1 (show c < 256 by omega)]
  exact Ev.bind (find_ev h) (Ev.now _)
theorem inFont_high {c : Int} (hc : 128 ≤ c) : Ev (fun k => font_inFont.f k c) false := by
  unfold font_inFont.f
  simp only [if_pos (show c > 127 by omega)]
  exact Ev.now _
theorem ok_low {c : Int} (h : Byte c) (ho : ok c = true) : c < 128 := (ok_size h ho).2.1
theorem allOk_of {s : ByteArray} {n : Int} (hn : n = s.size) (h : ∀ j : Nat, (j : Int) < n → ok (bt s j) = true) : allOk s := fun i hi => h i (by omega)

theorem check_ev (s : ByteArray) (sc : Int) (hs : s.size ≤ 140737488351232) : Ev (fun k => font_check.f k s sc) (chk s sc) := by
  unfold font_check.f
  by_cases h0 : s.size = 0
  · simp only [(toList_nil s).2 h0, if_true]
    unfold chk
    rw [if_pos h0]
    exact Ev.now _
  · have hne : ¬ s.toList = ([] : List UInt8) := fun h => h0 ((toList_nil s).1 h)
    simp only [if_neg hne]
    refine ev_loop (fun k i (_ : Unit) => font_check.l0 k s sc s i) 0 s.size (by omega) (fun i _ => ∀ j : Nat, (j : Int) < i → ok (bt s j) = true) _ ?_ ?_ () (fun j hj => by omega)
    · intro i u hi hin hI K
      by_cases hb : ok (bt s i) = true
      · have hl := ok_low (bt_byte s i) hb
        obtain ⟨e1, e2⟩ := step_low hi hin hl
        refine Ev.step (f := fun k => (font_inFont.f k (XIter.rn s i)).bind fun t148 => (if t148 = true then (font_check.l0 k s sc s (XIter.nx s i)) else (some 6))) (fun k => by simp only [font_check.l0]; rw [if_pos hi, if_pos hin]) ?_
        rw [e1, e2]
        refine Ev.bind (inFont_low (bt_byte s i) hl) ?_
        simp only [hb, if_true]
        refine K () (fun j hj => ?_)
        by_cases hji : (j : Int) < i
        · exact hI j hji
        · have : (j : Int) = i := by omega
          rw [this]; exact hb
      · have hc : chk s sc = 6 := by
          unfold chk
          rw [if_neg h0, if_pos]
          intro hA
          have := hA i.toNat (by omega)
          rw [show ((i.toNat : Nat) : Int) = i by omega] at this
          exact hb this
        rw [hc]
        refine Ev.step (f := fun k => (font_inFont.f k (XIter.rn s i)).bind fun t148 => (if t148 = true then (font_check.l0 k s sc s (XIter.nx s i)) else (some 6))) (fun k => by simp only [font_check.l0]; rw [if_pos hi, if_pos hin]) ?_
        by_cases hl : bt s i < 128
        · obtain ⟨e1, e2⟩ := step_low hi hin hl
          rw [e2]
          refine Ev.bind (inFont_low (bt_byte s i) hl) ?_
          simp only [if_neg hb]
          exact Ev.now _
        · refine Ev.bind (inFont_high (step_high hi hin hl)) ?_
          exact Ev.now _
    · intro u hI
      have hA : allOk s := allOk_of rfl hI
      have hj : ∀ b : Bool, b = decide (sc < 1 ∨ sc > 64) → Ev (fun k => font_check.j1 k s sc b) (chk s sc) := by
        intro b hb
        refine ev_end (fun k => ?_)
        unfold chk
        rw [if_neg h0, if_neg (fun h => h hA)]
        simp only [font_check.j1]
        by_cases hr : sc < 1 ∨ sc > 64
        · rw [decide_eq_true hr] at hb
          rw [if_pos hb, if_pos hr]
        · rw [decide_eq_false hr] at hb
          rw [if_neg (by rw [hb]; decide), if_neg hr, w64_len hs, w64_width hs (by omega) (by omega)]
          split <;> rfl
      by_cases h1 : sc < 1
      · exact Ev.step (f := fun k => font_check.j1 k s sc true) (fun k => by simp only [font_check.l0]; rw [if_pos (by omega), if_neg (by omega), if_pos h1]) (hj _ (decide_eq_true (Or.inl h1)).symm)
      · refine Ev.step (f := fun k => font_check.j1 k s sc (decide (sc > 64))) (fun k => by simp only [font_check.l0]; rw [if_pos (by omega), if_neg (by omega), if_neg h1]) (hj _ ?_)
        simp [h1]

/-- What Width answers. -/
def wid (s : ByteArray) (sc : Int) : Int × Int := if chk s sc = 0 then ((6 * (s.size : Int) - 1) * sc, 0) else (0, chk s sc)
theorem chk_zero {s : ByteArray} {sc : Int} (h : chk s sc = 0) : 1 ≤ s.size ∧ allOk s ∧ 1 ≤ sc ∧ sc ≤ 64 ∧ (6 * (s.size : Int) - 1) * sc ≤ 4096 := by
  unfold chk at h
  by_cases h0 : s.size = 0
  · rw [if_pos h0] at h; omega
  · rw [if_neg h0] at h
    by_cases hA : allOk s
    · rw [if_neg (fun h => h hA)] at h
      by_cases hr : sc < 1 ∨ sc > 64
      · rw [if_pos hr] at h; omega
      · rw [if_neg hr] at h
        by_cases hw : (6 * (s.size : Int) - 1) * sc > 4096
        · rw [if_pos hw] at h; omega
        · exact ⟨by omega, hA, by omega, by omega, by omega⟩
    · rw [if_pos hA] at h; omega
theorem chk_of {s : ByteArray} {sc : Int} (h0 : 1 ≤ s.size) (hA : allOk s) (h1 : 1 ≤ sc) (h2 : sc ≤ 64) (hw : (6 * (s.size : Int) - 1) * sc ≤ 4096) : chk s sc = 0 := by
  unfold chk
  rw [if_neg (by omega), if_neg (fun h => h hA), if_neg (by omega), if_neg (by omega)]
theorem width_ev (s : ByteArray) (sc : Int) (hs : s.size ≤ 140737488351232) : Ev (fun k => font_Width.f k s sc) (wid s sc) := by
  unfold font_Width.f
  refine Ev.bind (check_ev s sc hs) ?_
  unfold wid
  by_cases h : chk s sc = 0
  · obtain ⟨_, _, h1, h2, _⟩ := chk_zero h
    simp only [if_pos h, w64_len hs, w64_width hs h1 h2]
    exact Ev.now _
  · simp only [if_neg h]
    exact Ev.now _
end Go.Proofs.Ytghfcdgdbdeomaa.Pure
