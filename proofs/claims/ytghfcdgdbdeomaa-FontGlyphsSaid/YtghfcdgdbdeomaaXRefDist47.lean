/-
Distance, Chars and Closest of the reference, and Chars of the font. Conditions: bytes.
-/
import Derived.Test.YtghfcdgdbdeomaaXDist47
import Derived.Test.YtghfcdgdbdeomaaXRef47
import Derived.Test.YtghfcdgdbdeomaaPRx7
import Derived.Test.YtghfcdgdbdeomaaPRx21
import Derived.Test.YtghfcdgdbdeomaaPRx22
import Derived.Test.YtghfcdgdbdeomaaPRx21
namespace Go.Proofs.Ytghfcdgdbdeomaa.Pure
set_option linter.unusedVariables false
set_option linter.unusedSimpArgs false
open Go.RowKit Go.Proofs.Ytghfcdgdbdeomaa.PR Go.Proofs.YtghfcdgdbdeomaaW.PrintWords Go.Proofs.YtghfcdgdbdeomaaW.PrintLast Go.Proofs.YtghfcdgdbdeomaaW.PrintMore Go.Proofs.Ytghfcdgdbdeomaa.XWords Go.Proofs.Ytghfcdgdbdeomaa.XPure

theorem refDistance_ev {a b : Int} (ha : Byte a) (hb : Byte b) : Ev (fun k => barscanref47_Distance.f k a b) (dst a b) := by
  unfold barscanref47_Distance.f
  refine Ev.bind (refGlyph_ev ha) ?_
  refine Ev.bind (refGlyph_ev hb) ?_
  unfold dst gl
  by_cases h1 : ok a = true
  · by_cases h2 : ok b = true
    · simp only [if_pos h1, if_pos h2, if_pos (show ok a = true ∧ ok b = true from ⟨h1, h2⟩), if_true]
      refine Ev.step (f := fun k => barscanref47_Distance.l0 k 0 0 5 7 (dots a) 5 7 (dots b)) (fun k => by simp [barscanref47_Distance.j0]) ?_
      refine ev_loop (fun k i n => barscanref47_Distance.l0 k n i 5 7 (dots a) 5 7 (dots b)) 0 35 (by omega) (fun i n => n = cnt (fun j => dot a j != dot b j) i.toNat) _ ?_ ?_ 0 rfl
      · intro i n hi hin hI K
        have hi2 : i.toNat < 35 := by omega
        have hc := cnt_bounds (fun j => dot a j != dot b j) i.toNat
        have et : (i + 1).toNat = i.toNat + 1 := by omega
        have la := dots_length a
        have lb := dots_length b
        have d1 : rdOf false (dots a) i = dot a i.toNat := dots_get a hi2
        have d2 : rdOf false (dots b) i = dot b i.toNat := dots_get b hi2
        by_cases he : (dot a i.toNat != dot b i.toNat) = true
        · refine Ev.step (f := fun k => barscanref47_Distance.l0 k (n + 1) (i + 1) 5 7 (dots a) 5 7 (dots b)) (fun k => ?_) (K _ ?_)
          · simp only [barscanref47_Distance.l0]
            rw [if_pos hin, if_pos hi, if_pos (by omega), if_pos (by omega), d1, d2, if_pos he, w64 (by omega), w64 (by omega)]
          · rw [et]
            unfold cnt
            rw [if_pos he, hI]
        · refine Ev.step (f := fun k => barscanref47_Distance.l0 k n (i + 1) 5 7 (dots a) 5 7 (dots b)) (fun k => ?_) (K _ ?_)
          · simp only [barscanref47_Distance.l0]
            rw [if_pos hin, if_pos hi, if_pos (by omega), if_pos (by omega), d1, d2, if_neg he, w64 (by omega)]
          · rw [et]
            unfold cnt
            rw [if_neg he, hI]
      · intro n hI
        refine ev_end (fun k => ?_)
        simp only [barscanref47_Distance.l0]
        rw [if_neg (by omega), hI]
        rfl
    · rw [if_neg (show ¬ (ok a = true ∧ ok b = true) from fun h => h2 h.2)]
      simp only [if_pos h1, if_neg h2, if_true]
      exact ev_end (fun k => by simp [barscanref47_Distance.j0])
  · rw [if_neg (show ¬ (ok a = true ∧ ok b = true) from fun h => h1 h.1)]
    simp only [if_neg h1]
    exact ev_end (fun k => by simp [barscanref47_Distance.j0])

/-- The characters of the font. -/
def chs : List Int := tab.map S44.f0
theorem chs_length : chs.length = 62 := by unfold chs; rw [List.length_map, tab_length]
theorem chs_get {i : Int} (h0 : 0 ≤ i) (h1 : i < 62) : rd chs i = ch i.toNat := by
  have hl : i.toNat < tab.length := by rw [tab_length]; omega
  unfold rd chs ch
  rw [List.getD_eq_getElem?_getD, List.getD_eq_getElem?_getD, List.getElem?_map, List.getElem?_eq_getElem hl]
  rfl
theorem k_chars : font_Chars.f 300 = some chs := by decide +kernel
theorem k_refChars : barscanref47_Chars.f 300 = some chs := by decide +kernel
theorem Chars_ev : Ev (fun k => font_Chars.f k) chs := Ev.of (g := fun k => font_Chars.f k) (font_Chars.mono) (k := 300) k_chars
theorem refChars_ev : Ev (fun k => barscanref47_Chars.f k) chs := Ev.of (g := fun k => barscanref47_Chars.f k) (barscanref47_Chars.mono) (k := 300) k_refChars
theorem refClosest_ev : Ev (fun k => barscanref47_Closest.f k) 2 := by
  unfold barscanref47_Closest.f
  refine Ev.bind refChars_ev ?_
  rw [← least_eq]
  refine ev_loop (fun k i x => barscanref47_Closest.l0 k x chs i) 0 62 (by omega) (fun i x => x = m0 pd i.toNat) _ ?_ ?_ 35 rfl
  · intro i x hi hin hI K
    have hi2 : i.toNat < 62 := by omega
    obtain ⟨r0, r1, _, _⟩ := tab_row hi2
    refine Ev.step (f := fun k => barscanref47_Closest.l1 k x chs i 0) (fun k => ?_) ?_
    · simp only [barscanref47_Closest.l0, chs_length]
      rw [if_pos (by omega)]
    refine ev_loop (fun k j x => barscanref47_Closest.l1 k x chs i j) 0 i hi (fun j y => y = m1 (pd i.toNat) x j.toNat) _ ?_ ?_ x rfl
    · intro j y hj hji hJ K2
      have hj2 : j.toNat < 62 := by omega
      obtain ⟨s0, s1, _, _⟩ := tab_row hj2
      refine Ev.step (f := fun k => (barscanref47_Distance.f k (ch i.toNat) (ch j.toNat)).bind fun bt459 => (barscanref47_Closest.l1 k (mn y bt459.1) chs i (j + 1))) (fun k => ?_) ?_
      · simp only [barscanref47_Closest.l1, chs_length]
        rw [if_pos hji, if_pos hi, if_pos (by omega), if_pos hj, if_pos (by omega), w64 (by omega), chs_get hi hin, chs_get hj (by omega)]
      refine Ev.bind (refDistance_ev r0 s0) ?_
      unfold dst
      rw [if_pos ⟨r1, s1⟩]
      refine K2 _ ?_
      rw [hJ, show (j + 1).toNat = j.toNat + 1 by omega]
      rfl
    · intro y hJ
      refine Ev.step (f := fun k => barscanref47_Closest.l0 k y chs (i + 1)) (fun k => ?_) (K y ?_)
      · simp only [barscanref47_Closest.l1]
        rw [if_neg (by omega), w64 (by omega)]
      · rw [hJ, hI, show (i + 1).toNat = i.toNat + 1 by omega]
        rfl
  · intro x hI
    refine ev_end (fun k => ?_)
    simp only [barscanref47_Closest.l0, chs_length]
    rw [if_neg (by omega), hI]
    rfl
end Go.Proofs.Ytghfcdgdbdeomaa.Pure
