/-
Width and Draw of the reference: the answers of the font. Conditions: the string's length.
-/
import Derived.Test.YtghfcdgdbdeomaaXDraw47
import Derived.Test.YtghfcdgdbdeomaaXRef47
import Derived.Test.YtghfcdgdbdeomaaPRx13
import Derived.Test.YtghfcdgdbdeomaaPRx15
namespace Go.Proofs.Ytghfcdgdbdeomaa.Pure
set_option linter.unusedVariables false
set_option linter.unusedSimpArgs false
open Go.RowKit Go.Proofs.Ytghfcdgdbdeomaa.PR Go.Proofs.YtghfcdgdbdeomaaW.PrintWords Go.Proofs.YtghfcdgdbdeomaaW.PrintLast Go.Proofs.YtghfcdgdbdeomaaW.PrintMore Go.Proofs.Ytghfcdgdbdeomaa.XWords Go.Proofs.Ytghfcdgdbdeomaa.XPure

theorem refWidth_ev (s : ByteArray) (sc : Int) (hs : s.size ≤ 140737488351232) : Ev (fun k => barscanref47_Width.f k s sc) (wid s sc) := by
  unfold barscanref47_Width.f
  by_cases h0 : s.size = 0
  · simp only [(toList_nil s).2 h0, if_true]
    unfold wid chk
    simp only [if_pos h0]
    exact Ev.now _
  · have hne : ¬ s.toList = ([] : List UInt8) := fun h => h0 ((toList_nil s).1 h)
    simp only [if_neg hne]
    refine ev_loop (fun k i (_ : Unit) => barscanref47_Width.l0 k s sc i) 0 s.size (by omega) (fun i _ => ∀ j : Nat, (j : Int) < i → ok (bt s j) = true) _ ?_ ?_ () (fun j hj => by omega)
    · intro i u hi hin hI K
      obtain ⟨r, hr, hro⟩ := rows_eq (bt_byte s i)
      by_cases hb : ok (bt s i) = true
      · have hrn : ¬ r.toList = ([] : List UInt8) := fun h => by rw [hro.1 h] at hb; cases hb
        refine Ev.step (f := fun k => barscanref47_Width.l0 k s sc (i + 1)) (fun k => ?_) (K () (fun j hj => ?_))
        · simp only [barscanref47_Width.l0]
          rw [if_pos hin, if_pos hi, hr, Option.bind_some, if_neg hrn, w64 (by omega)]
        · by_cases hji : (j : Int) < i
          · exact hI j hji
          · have : (j : Int) = i := by omega
            rw [this]; exact hb
      · have hc : chk s sc = 6 := by
          unfold chk
          rw [if_neg h0, if_pos]
          intro hA
          have := hA i.toNat (by omega)
          rw [show ((i.toNat : Nat) : Int) = i by omega] at this
          exact hb this
        have hrn : r.toList = ([] : List UInt8) := hro.2 (by simpa using hb)
        refine ev_end (fun k => ?_)
        unfold wid
        simp only [barscanref47_Width.l0]
        rw [hc, if_pos hin, if_pos hi, hr, Option.bind_some, if_pos hrn, if_neg (by decide)]
    · intro u hI
      have hA : allOk s := allOk_of rfl hI
      have hj : ∀ b : Bool, b = decide (sc < 1 ∨ sc > 64) → Ev (fun k => barscanref47_Width.j1 k s sc b) (wid s sc) := by
        intro b hb
        refine ev_end (fun k => ?_)
        have hc : chk s sc = if sc < 1 ∨ sc > 64 then 3 else if (6 * (s.size : Int) - 1) * sc > 4096 then 4 else 0 := by
          unfold chk
          rw [if_neg h0, if_neg (fun h => h hA)]
        unfold wid
        simp only [barscanref47_Width.j1]
        by_cases hr : sc < 1 ∨ sc > 64
        · rw [decide_eq_true hr] at hb
          rw [if_pos hr] at hc
          rw [if_pos hb, hc, if_neg (by decide)]
        · rw [decide_eq_false hr] at hb
          rw [if_neg hr] at hc
          rw [if_neg (by rw [hb]; decide), w64_len hs, w64_width hs (by omega) (by omega)]
          by_cases hw : (6 * (s.size : Int) - 1) * sc > 4096
          · rw [if_pos hw] at hc
            rw [if_pos hw, hc, if_neg (by decide)]
          · rw [if_neg hw] at hc
            rw [if_neg hw, hc, if_pos rfl]
      by_cases h1 : sc < 1
      · exact Ev.step (f := fun k => barscanref47_Width.j1 k s sc true) (fun k => by simp only [barscanref47_Width.l0]; rw [if_neg (by omega), if_pos h1]) (hj _ (decide_eq_true (Or.inl h1)).symm)
      · refine Ev.step (f := fun k => barscanref47_Width.j1 k s sc (decide (sc > 64))) (fun k => by simp only [barscanref47_Width.l0]; rw [if_neg (by omega), if_neg h1]) (hj _ ?_)
        simp [h1]
/-- A number over six times sc, told by the quotient. -/
theorem sixths {sc U : Int} (h1 : 1 ≤ sc) (hU : 0 ≤ U) : U / (6 * sc) = U / sc / 6 ∧ (U % (6 * sc)) / sc = U / sc % 6 ∧ (U % (6 * sc) < 5 * sc ↔ U / sc % 6 < 5) := by
  have hq := Int.mul_ediv_add_emod U sc
  have hf0 := Int.emod_nonneg U (show sc ≠ 0 by omega)
  have hf1 := Int.emod_lt_of_pos U (show 0 < sc by omega)
  have hg := Int.mul_ediv_add_emod (U / sc) 6
  have he0 := Int.emod_nonneg (U / sc) (show (6 : Int) ≠ 0 by omega)
  have he1 := Int.emod_lt_of_pos (U / sc) (show (0 : Int) < 6 by omega)
  generalize U % sc = f at hq hf0 hf1
  generalize U / sc = q at hq hg he0 he1 ⊢
  generalize hd : q / 6 = d at hg ⊢
  generalize hm : q % 6 = e at hg he0 he1 ⊢
  have hlt : sc * e + f < 6 * sc := by
    have : sc * e ≤ sc * 5 := Int.mul_le_mul_of_nonneg_left (by omega) (by omega)
    omega
  have hge : 0 ≤ sc * e + f := Int.add_nonneg (Int.mul_nonneg (by omega) he0) hf0
  have hUe : U = d * (6 * sc) + (sc * e + f) := by
    have : sc * q = d * (6 * sc) + sc * e := by
      rw [← hg, Int.mul_add, ← Int.mul_assoc sc 6 d, Int.mul_comm sc 6, Int.mul_comm (6 * sc) d]
    omega
  have hmod : U % (6 * sc) = sc * e + f := by rw [hUe]; exact row_mod hge hlt
  have hdiv : U / (6 * sc) = d := by rw [hUe]; exact row_div hge hlt
  refine ⟨hdiv, ?_, ?_⟩
  · rw [hmod, Int.mul_comm sc e]
    exact row_div hf0 hf1
  · rw [hmod]
    constructor
    · intro h
      by_cases h5 : e = 5
      · rw [h5] at h; omega
      · omega
    · intro h
      have : sc * e ≤ sc * 4 := Int.mul_le_mul_of_nonneg_left (by omega) (by omega)
      omega
theorem refDraw_ev (s : ByteArray) (sc : Int) (hs : s.size ≤ 140737488351232) : Ev (fun k => barscanref47_Draw.f k s sc) (drw s sc) := by
  unfold barscanref47_Draw.f
  refine Ev.bind (refWidth_ev s sc hs) ?_
  unfold drw wid
  by_cases hc : chk s sc = 0
  · obtain ⟨h0, hA, h1, h2, hw⟩ := chk_zero hc
    have hwd : 1 ≤ wd s := by unfold wd; omega
    have hw' : wd s * sc ≤ 4096 := hw
    obtain ⟨b1, b2, b3⟩ := wide hwd h1 hw'
    have hcm : wd s * sc = sc * wd s := Int.mul_comm _ _
    have b4 : sc * wd s * (sc * 7) ≤ 4096 * 448 := Int.mul_le_mul b3 (by omega) (by omega) (by omega)
    have b5 : 0 ≤ sc * wd s * (sc * 7) := Int.mul_nonneg (by omega) (by omega)
    have hww : sc * wd s * 7 * sc = sc * wd s * (sc * 7) := by rw [Int.mul_assoc, Int.mul_comm 7 sc]
    simp only [if_pos hc, if_true]
    rw [show (6 * (s.size : Int) - 1) = wd s from rfl, hcm, w64 (n := sc * wd s * 7) (by omega), hww, w64 (n := sc * wd s * (sc * 7)) (by omega), w64 (n := 7 * sc) (by omega), Int.mul_comm 7 sc]
    simp only [if_pos b5, if_pos (show (sc * wd s * (sc * 7)).toNat ≤ 281474976710656 by omega)]
    have hN : sc * wd s = 6 * sc * s.size - sc := by
      unfold wd
      rw [Int.mul_sub, Int.mul_one, ← Int.mul_assoc, Int.mul_comm sc 6]
    have hspan : ∀ i : Int, i < s.size → 6 * sc * i + 6 * sc ≤ 6 * sc * s.size := by
      intro i hi
      have : 6 * sc * (i + 1) ≤ 6 * sc * s.size := Int.mul_le_mul_of_nonneg_left (by omega) (by omega)
      rw [Int.mul_add, Int.mul_one] at this
      exact this
    have hok : ∀ i : Int, 0 ≤ i → i < s.size → ok (bt s i) = true := by
      intro i hi hin
      have := hA i.toNat (by omega)
      rwa [show ((i.toNat : Nat) : Int) = i by omega] at this
    refine ev_blocks (W := sc * wd s) (H := sc * 7) (B := 6 * sc) (q := 5 * sc) (n := s.size) (by omega) (by omega) (by omega) (by omega) (by omega) (by omega) (fun i u hi hin hu huq => by have := hspan i hin; omega)
      (fun i v u => dot (bt s i) (v / sc * 5 + u / sc).toNat)
      (fun k i acc => barscanref47_Draw.l0 k s sc (sc * wd s) i (sc * wd s) (sc * 7) acc)
      (fun k i v acc => barscanref47_Draw.l1 k s sc (sc * wd s) i v (sc * wd s) (sc * 7) acc 5 7 (dots (bt s i)))
      (fun k i v u acc => barscanref47_Draw.l2 k s sc (sc * wd s) i v u (sc * wd s) (sc * 7) acc 5 7 (dots (bt s i))) _ ?_ ?_ ?_ ?_ ?_ ?_
    · intro i acc hi hin K
      have ho := hok i hi hin
      have eg : gl (bt s i) = (5, 7, dots (bt s i), 0) := by unfold gl; rw [if_pos ho]
      have G := refGlyph_ev (bt_byte s i)
      rw [eg] at G
      refine Ev.step (f := fun k => (barscanref47_Glyph.f k (bt s i)).bind fun bt280 => (barscanref47_Draw.l1 k s sc (sc * wd s) i 0 (sc * wd s) (sc * 7) acc bt280.1 bt280.2.1 bt280.2.2.1)) (fun k => ?_) (Ev.bind G K)
      simp only [barscanref47_Draw.l0]
      rw [if_pos hin, if_pos hi]
    · intro k i v acc hi hin hv hvH
      simp only [barscanref47_Draw.l1]
      rw [w64 (n := 7 * sc) (by omega), if_pos (by omega)]
    · intro k i v u acc hi hin hv hvH hu huq hal
      have hsp := hspan i hin
      have hBi : 0 ≤ 6 * sc * i := Int.mul_nonneg (by omega) hi
      have hfit : 6 * sc * i + u < sc * wd s := by omega
      have hr := row_lt (w := sc * wd s) (h := sc * 7) hfit (by omega) hvH hv
      have hr0 := row_nonneg (w := sc * wd s) (u := 6 * sc * i + u) (v := v) (by omega) (by omega) hv
      have hvw : 0 ≤ v * (sc * wd s) := Int.mul_nonneg hv (by omega)
      have hlen : ((acc.length : Nat) : Int) = sc * wd s * (sc * 7) := by omega
      obtain ⟨a1, a2, a3⟩ := quot_in (K := sc) (w := 7) h1 hv hvH
      obtain ⟨c1, c2, c3⟩ := quot_in (K := sc) (w := 5) h1 hu (by omega)
      have e6 : 6 * i * sc = 6 * sc * i := by rw [Int.mul_assoc, Int.mul_comm i sc, ← Int.mul_assoc]
      have hi2 : i ≤ 4096 := by
        have : 1 * i ≤ 6 * sc * i := Int.mul_le_mul_of_nonneg_right (by omega) hi
        omega
      have x1 : wrap64 (v * (sc * wd s)) = v * (sc * wd s) := w64 (by omega)
      have x2 : wrap64 (6 * i) = 6 * i := w64 (by omega)
      have x2' : wrap64 (6 * i * sc) = 6 * sc * i := by rw [e6]; exact w64 (by omega)
      have x3 : wrap64 (v * (sc * wd s) + 6 * sc * i) = v * (sc * wd s) + 6 * sc * i := w64 (by omega)
      have x4 : wrap64 (v * (sc * wd s) + 6 * sc * i + u) = v * (sc * wd s) + (6 * sc * i + u) := by rw [w64 (by omega)]; omega
      have x5 : wrap64 (u + 1) = u + 1 := w64 (by omega)
      have y1 : wrap64 (Int.tdiv v sc) = v / sc := by rw [a3]; exact w64 (by omega)
      have y2 : wrap64 (Int.tdiv u sc) = u / sc := by rw [c3]; exact w64 (by omega)
      have y3 : wrap64 (v / sc * 5) = v / sc * 5 := w64 (by omega)
      have y4 : wrap64 (v / sc * 5 + u / sc) = v / sc * 5 + u / sc := w64 (by omega)
      have hd := dots_length (bt s i)
      have hrd : rdOf false (dots (bt s i)) (v / sc * 5 + u / sc) = dot (bt s i) (v / sc * 5 + u / sc).toNat := dots_get _ (by omega)
      simp only [barscanref47_Draw.l2, x1, x2, x2', x3, x4, x5, y1, y2, y3, y4, hrd, hd]
      rw [w64 (n := 5 * sc) (by omega), if_pos (by omega), if_neg (by omega), if_pos (by omega), if_pos (by omega), if_pos hr0, if_pos (by omega)]
    · intro k i v acc hi hin hv hvH
      simp only [barscanref47_Draw.l2]
      rw [w64 (n := 5 * sc) (by omega), if_neg (by omega), w64 (by omega)]
    · intro k i acc hi hin
      simp only [barscanref47_Draw.l1]
      rw [w64 (n := 7 * sc) (by omega), if_neg (by omega), w64 (by omega)]
    · have e : upto (sc * wd s) (fun U V => if U % (6 * sc) < 5 * sc ∧ U / (6 * sc) < (s.size : Int) then dot (bt s (U / (6 * sc))) (V / sc * 5 + U % (6 * sc) / sc).toNat else false) (sc * wd s * (sc * 7)).toNat = pict s sc := by
        unfold pict
        refine upto_in (by omega) (fun U V hU hUW hV hVH => ?_)
        obtain ⟨z1, z2, z3⟩ := sixths h1 hU
        unfold paint
        rw [z1, z2]
        by_cases hcond : U / sc % 6 < 5 ∧ U / sc / 6 < (s.size : Int)
        · rw [if_pos hcond, if_pos ⟨z3.2 hcond.1, hcond.2⟩]
        · rw [if_neg hcond, if_neg (fun h => hcond ⟨z3.1 h.1, h.2⟩)]
      refine ev_end (fun k => ?_)
      simp only [barscanref47_Draw.l0]
      rw [if_neg (by omega), e]
  · simp only [if_neg hc]
    exact Ev.now _
end Go.Proofs.Ytghfcdgdbdeomaa.Pure
