/-
FontJoins, over numbers and rows alone. Conditions: the strings' lengths.
-/
import Derived.Test.YtghfcdgdbdeomaaStmtFontJoins
import Derived.Test.YtghfcdgdbdeomaaXDraw47
import Derived.Test.YtghfcdgdbdeomaaXEx47
import Derived.Test.YtghfcdgdbdeomaaPRx19
namespace Go.Proofs.Ytghfcdgdbdeomaa.Pure
set_option linter.unusedVariables false
set_option linter.unusedSimpArgs false
open Go.RowKit Go.Proofs.Ytghfcdgdbdeomaa.PR Go.Proofs.YtghfcdgdbdeomaaW.PrintWords Go.Proofs.YtghfcdgdbdeomaaW.PrintLast Go.Proofs.YtghfcdgdbdeomaaW.PrintMore Go.Proofs.Ytghfcdgdbdeomaa.XWords Go.Proofs.Ytghfcdgdbdeomaa.XPure

theorem at_eq {w h : Int} {l : List Bool} (V : Valid w h l.length) (x y : Int) : raster_at.f w h l x y = some (pix false w h l x y) := by
  unfold raster_at.f
  by_cases h1 : x ≥ 0
  · by_cases h2 : x < w
    · by_cases h3 : y ≥ 0
      · by_cases h4 : y < h
        · obtain ⟨e1, e2, e3, e4, e5, _⟩ := V.spot h1 h2 h3 h4
          rw [if_pos h1, if_pos h2, if_pos h3, if_pos h4, e1, e2, if_pos e4, if_pos e5, pix_in h1 h2 h3 h4]
          rfl
        · rw [if_pos h1, if_pos h2, if_pos h3, if_neg h4, pix_out (by omega)]
      · rw [if_pos h1, if_pos h2, if_neg h3, pix_out (by omega)]
    · rw [if_pos h1, if_neg h2, pix_out (by omega)]
  · rw [if_neg h1, pix_out (by omega)]
theorem At_eq (w h : Int) (l : List Bool) (x y : Int) : raster_At.f w h l x y = some (if Valid w h l.length then pix false w h l x y else false) := by
  unfold raster_At.f
  rw [check_eq]
  by_cases V : Valid w h l.length
  · rw [if_pos V, if_pos V, Option.bind_some, if_pos rfl, at_eq V]
    rfl
  · rw [if_neg V, if_neg V, Option.bind_some, if_neg (by decide)]

theorem equal_self (w h : Int) (l : List Bool) (hl : l.length ≤ 4194304) : Ev (fun k => barscanref31_Equal.f k w h l w h l) true := by
  unfold barscanref31_Equal.f
  simp only [if_true]
  refine Ev.step (f := fun k => barscanref31_Equal.l0 k 0 w h l w h l) (fun k => ?_) ?_
  · simp only [barscanref31_Equal.j0, bne_self_eq_false]
    rfl
  refine ev_loop (fun k i (_ : Unit) => barscanref31_Equal.l0 k i w h l w h l) 0 l.length (by omega) (fun _ _ => True) _ ?_ ?_ () trivial
  · intro i s hi hil _ K
    refine Ev.step (f := fun k => barscanref31_Equal.l0 k (i + 1) w h l w h l) (fun k => ?_) (K () trivial)
    simp only [barscanref31_Equal.l0]
    rw [if_pos hil, if_pos hi, if_pos hil, w64 (by omega), bne_self_eq_false]
    rfl
  · intro s _
    refine ev_end (fun k => ?_)
    simp only [barscanref31_Equal.l0]
    rw [if_neg (by omega)]
theorem same_self (w h : Int) (l : List Bool) (hl : l.length ≤ 4194304) : Ev (fun k => barscanlaw47_same.f k w h l w h l) true := by
  unfold barscanlaw47_same.f
  exact Ev.bind (equal_self w h l hl) (Ev.now _)
theorem ex_some : Ev (fun k => (barscanlaw47_examples.f k).bind fun t => some t) true := Ev.bind examples_ok (Ev.now _)

theorem bt_left {s t : ByteArray} {i : Int} (h0 : 0 ≤ i) (h1 : i < s.size) : bt (s ++ t) i = bt s i := by
  have hi : i.toNat < s.size := by omega
  unfold bt
  rw [dif_pos hi, dif_pos (by rw [ByteArray.size_append]; omega), ByteArray.getElem_append_left hi]
theorem bt_right {s t : ByteArray} {i : Int} (h0 : (s.size : Int) ≤ i) (h1 : i < s.size + t.size) : bt (s ++ t) i = bt t (i - s.size) := by
  have hi : s.size ≤ i.toNat := by omega
  have e : (i - s.size).toNat = i.toNat - s.size := by omega
  unfold bt
  rw [dif_pos (show i.toNat < (s ++ t).size by rw [ByteArray.size_append]; omega), dif_pos (show (i - s.size).toNat < t.size by omega), ByteArray.getElem_append_right hi]
  congr 2
  simp only [e]
theorem allOk_append {s t : ByteArray} (hs : allOk s) (ht : allOk t) : allOk (s ++ t) := by
  intro i hi
  rw [ByteArray.size_append] at hi
  by_cases h : i < s.size
  · rw [bt_left (by omega) (by omega)]
    exact hs i h
  · rw [bt_right (by omega) (by omega)]
    have := ht (i - s.size) (by omega)
    rwa [show ((i - s.size : Nat) : Int) = (i : Int) - s.size by omega] at this
theorem paint_left {s t : ByteArray} {q v : Int} (h0 : 0 ≤ q) (h1 : q < wd s) : paint (s ++ t) q v = paint s q v := by
  unfold wd at h1
  unfold paint
  rw [ByteArray.size_append, bt_left (i := q / 6) (by omega) (by omega)]
  by_cases h : q % 6 < 5
  · rw [if_pos ⟨h, by omega⟩, if_pos ⟨h, by omega⟩]
  · rw [if_neg (fun hh => h hh.1), if_neg (fun hh => h hh.1)]
theorem paint_gap {s : ByteArray} {q v : Int} (h : q % 6 = 5) : paint s q v = false := by
  unfold paint
  rw [if_neg (fun hh => by omega)]
theorem paint_right {s t : ByteArray} {q v : Int} (h0 : 6 * (s.size : Int) ≤ q) (h1 : q < 6 * (s.size : Int) + 6 * (t.size : Int)) : paint (s ++ t) q v = paint t (q - 6 * s.size) v := by
  have e1 : (q - 6 * s.size) % 6 = q % 6 := by omega
  have e2 : (q - 6 * s.size) / 6 = q / 6 - s.size := by omega
  unfold paint
  rw [ByteArray.size_append, bt_right (i := q / 6) (by omega) (by omega), e1, e2]
  by_cases h : q % 6 < 5
  · rw [if_pos ⟨h, by omega⟩, if_pos ⟨h, by omega⟩]
  · rw [if_neg (fun hh => h hh.1), if_neg (fun hh => h hh.1)]
/-- A pixel of a drawn line. -/
theorem pix_pict {s : ByteArray} {K x y : Int} (h1 : 1 ≤ K) (hw : 1 ≤ wd s) (y0 : 0 ≤ y) (y1 : y < K * 7) : pix false (K * wd s) (K * 7) (pict s K) x y = if 0 ≤ x ∧ x < K * wd s then paint s (x / K) (y / K) else false := by
  have hp : 1 * 1 ≤ K * wd s := Int.mul_le_mul h1 hw (by omega) (by omega)
  by_cases h : 0 ≤ x ∧ x < K * wd s
  · rw [pix_in h.1 h.2 y0 y1, if_pos h]
    unfold pict
    exact upto_getD h.1 h.2 y0 (by have := row_lt (w := K * wd s) (h := K * 7) h.2 h.1 y1 y0; omega)
  · rw [if_neg h, pix_out (fun hh => h ⟨hh.1, hh.2.1⟩)]
theorem joined {s t : ByteArray} {K x y : Int} (hs : 1 ≤ s.size) (ht : 1 ≤ t.size) (h1 : 1 ≤ K) (x0 : 0 ≤ x) (x1 : x < K * wd (s ++ t)) (y0 : 0 ≤ y) (y1 : y < K * 7) :
    paint (s ++ t) (x / K) (y / K) = (pix false (K * wd s) (K * 7) (pict s K) x y || pix false (K * wd t) (K * 7) (pict t K) (x - K * wd s - K) y) := by
  have w1 : 1 ≤ wd s := by unfold wd; omega
  have w2 : 1 ≤ wd t := by unfold wd; omega
  rw [pix_pict h1 w1 y0 y1, pix_pict h1 w2 y0 y1]
  have hq := Int.mul_ediv_add_emod x K
  have hf0 := Int.emod_nonneg x (show K ≠ 0 by omega)
  have hf1 := Int.emod_lt_of_pos x (show 0 < K by omega)
  have hq0 : 0 ≤ x / K := Int.ediv_nonneg x0 (by omega)
  have hq1 : x / K < wd (s ++ t) := Int.ediv_lt_of_lt_mul (by omega) (by rw [Int.mul_comm]; exact x1)
  have hA : K * wd s + K = K * (6 * (s.size : Int)) := by unfold wd; rw [Int.mul_sub, Int.mul_one]; omega
  have hB : ∀ c : Int, x / K < c ↔ x < K * c := by
    intro c
    rw [Int.mul_comm K c]
    exact Int.ediv_lt_iff_lt_mul (by omega)
  have hwst : wd (s ++ t) = 6 * (s.size : Int) + wd t := by unfold wd; rw [ByteArray.size_append]; omega
  have e3 : (x - K * wd s - K) / K = x / K - 6 * s.size := by
    have : x - K * wd s - K = x + K * (-(6 * (s.size : Int))) := by rw [Int.mul_neg]; omega
    rw [this, Int.add_mul_ediv_left _ _ (by omega)]
    omega
  have b1 := hB (wd s)
  have b2 := hB (6 * s.size)
  by_cases c1 : x / K < wd s
  · rw [paint_left hq0 c1, if_pos ⟨x0, b1.1 c1⟩]
    have : ¬ (0 ≤ x - K * wd s - K ∧ x - K * wd s - K < K * wd t) := by
      have := b1.1 c1
      omega
    rw [if_neg this, Bool.or_false]
  · have hx : ¬ (0 ≤ x ∧ x < K * wd s) := fun h => c1 (b1.2 h.2)
    rw [if_neg hx, Bool.false_or]
    by_cases c2 : x / K < 6 * (s.size : Int)
    · have e5 : x / K % 6 = 5 := by
        unfold wd at c1
        omega
      rw [paint_gap e5, if_neg]
      have := b2.1 c2
      omega
    · have hlt : x / K < 6 * (s.size : Int) + wd t := by omega
      have hx2 := (hB _).1 hlt
      rw [Int.mul_add] at hx2
      have hx3 : ¬ x < K * (6 * (s.size : Int)) := fun h => c2 (b2.2 h)
      rw [if_pos (by omega), e3]
      exact paint_right (by omega) (by unfold wd at hlt; omega)

theorem chk_few {s : ByteArray} {K : Int} (hs : s.size ≤ 40) (h1 : 1 ≤ K) (h2 : K ≤ 4) : chk s K = 5 ∨ chk s K = 6 ∨ (chk s K = 0 ∧ 1 ≤ s.size ∧ allOk s) := by
  unfold chk
  by_cases h0 : s.size = 0
  · rw [if_pos h0]; exact .inl rfl
  · rw [if_neg h0]
    by_cases hA : allOk s
    · have hw : (6 * (s.size : Int) - 1) * K ≤ 240 * 4 := Int.mul_le_mul (by omega) h2 (by omega) (by omega)
      rw [if_neg (fun h => h hA), if_neg (by omega), if_neg (by omega)]
      exact .inr (.inr ⟨rfl, by omega, hA⟩)
    · rw [if_pos hA]; exact .inr (.inl rfl)
theorem valid_pict {s : ByteArray} {K : Int} (h0 : 1 ≤ s.size) (hs : s.size ≤ 40) (h1 : 1 ≤ K) (h2 : K ≤ 4) : Valid (K * wd s) (K * 7) (pict s K).length ∧ (pict s K).length ≤ 4194304 := by
  have w1 : 1 ≤ wd s := by unfold wd; omega
  have w2 : wd s ≤ 240 := by unfold wd; omega
  have a1 : 1 * 1 ≤ K * wd s := Int.mul_le_mul h1 w1 (by omega) (by omega)
  have a2 : K * wd s ≤ 4 * 240 := Int.mul_le_mul h2 w2 (by omega) (by omega)
  have a3 : K * wd s * (K * 7) ≤ 960 * 28 := Int.mul_le_mul a2 (by omega) (by omega) (by omega)
  have a4 : 0 ≤ K * wd s * (K * 7) := Int.mul_nonneg (by omega) (by omega)
  have hl : ((pict s K).length : Int) = K * wd s * (K * 7) := by unfold pict; rw [upto_length]; omega
  exact ⟨⟨⟨by omega, by omega, by omega, by omega, by omega⟩, hl⟩, by omega⟩
theorem drw_ok {s : ByteArray} {K : Int} (h : chk s K = 0) : drw s K = (K * wd s, K * 7, pict s K, 0) := by unfold drw; rw [if_pos h]
theorem drw_bad {s : ByteArray} {K e : Int} (h : chk s K = e) (he : e ≠ 0) : drw s K = (0, 0, [], e) := by unfold drw; rw [h, if_neg he]
theorem pict_one (s : ByteArray) : pict s 1 = base s := by
  unfold pict base
  simp only [Int.one_mul, Int.ediv_one]

theorem FontJoins : barscanlaw47_FontJoins.Pure := by
  intro s t a hs ht wa
  refine Ev.rounds (g := fun k => barscanlaw47_FontJoins.f k s t a) ?_
  have ha := wf_u8 wa
  have hK : wrap64 ((wrap64 (Int.tmod a 4)) + 1) = a % 4 + 1 := by
    rw [Int.tmod_eq_emod_of_nonneg ha.1, w64 (n := a % 4) (by omega), w64 (by omega)]
  unfold barscanlaw47_FontJoins.f
  simp only [hK]
  have K1 : 1 ≤ a % 4 + 1 := by omega
  have K2 : a % 4 + 1 ≤ 4 := by omega
  generalize a % 4 + 1 = K at K1 K2
  have E := ex_some
  by_cases g1 : (s.size : Int) > 20
  · simp only [if_pos g1]
    exact E
  by_cases g2 : (t.size : Int) > 20
  · simp only [if_neg g1, if_pos g2]
    exact E
  simp only [if_neg g1, if_neg g2, if_pos (show s.size + t.size ≤ 9223372036854775807 by omega)]
  have hst : (s ++ t).size = s.size + t.size := ByteArray.size_append
  refine Ev.bind (Draw_ev s K hs) ?_
  refine Ev.bind (Draw_ev t K ht) ?_
  refine Ev.bind (Draw_ev (s ++ t) K (by omega)) ?_
  rcases chk_few (s := s) (by omega) K1 K2 with cs | cs | ⟨cs, s1, sA⟩
  · simp only [drw_bad cs (by decide), if_neg (show ¬ ((5 : Int) = 0) by decide), if_neg (show ¬ ((5 : Int) = 6) by decide), if_true]
    exact E
  · simp only [drw_bad cs (by decide), if_neg (show ¬ ((6 : Int) = 0) by decide), if_true]
    exact E
  rcases chk_few (s := t) (by omega) K1 K2 with ct | ct | ⟨ct, t1, tA⟩
  · simp only [drw_ok cs, drw_bad ct (by decide), if_neg (show ¬ ((5 : Int) = 0) by decide), if_neg (show ¬ ((5 : Int) = 6) by decide), if_neg (show ¬ ((0 : Int) = 6) by decide), if_neg (show ¬ ((0 : Int) = 5) by decide), if_true]
    exact E
  · simp only [drw_ok cs, drw_bad ct (by decide), if_neg (show ¬ ((6 : Int) = 0) by decide), if_neg (show ¬ ((0 : Int) = 6) by decide), if_neg (show ¬ ((0 : Int) = 5) by decide), if_true]
    exact E
  have cst : chk (s ++ t) K = 0 := by
    rcases chk_few (s := s ++ t) (K := K) (by omega) K1 K2 with c | c | ⟨c, _, _⟩
    · unfold chk at c
      rw [if_neg (by omega), if_neg (fun h => h (allOk_append sA tA))] at c
      exfalso
      revert c
      split
      · decide
      · split <;> decide
    · unfold chk at c
      rw [if_neg (by omega), if_neg (fun h => h (allOk_append sA tA))] at c
      exfalso
      revert c
      split
      · decide
      · split <;> decide
    · exact c
  obtain ⟨Vs, ls⟩ := valid_pict s1 (by omega) K1 K2
  obtain ⟨Vt, lt⟩ := valid_pict t1 (by omega) K1 K2
  obtain ⟨Vc, lc⟩ := valid_pict (s := s ++ t) (K := K) (by omega) (by omega) K1 K2
  have hsum : K * wd (s ++ t) = K * wd s + K + K * wd t := by
    have : wd (s ++ t) = wd s + 1 + wd t := by unfold wd; rw [hst]; omega
    rw [this, Int.mul_add, Int.mul_add, Int.mul_one]
  have hwid : wid (s ++ t) K = (K * wd (s ++ t), 0) := by
    unfold wid
    rw [if_pos cst, Int.mul_comm]
    rfl
  simp only [drw_ok cs, drw_ok ct, drw_ok cst, if_true]
  refine Ev.bind (width_ev (s ++ t) K (by omega)) ?_
  obtain ⟨⟨f1, f2, f3, f4, f5⟩, f6⟩ := id Vc
  obtain ⟨⟨p1, p2, p3, p4, p5⟩, p6⟩ := id Vs
  obtain ⟨⟨q1, q2, q3, q4, q5⟩, q6⟩ := id Vt
  have z1 : wrap64 (wrap64 (K * wd s + K) + K * wd t) = K * wd (s ++ t) := by
    rw [w64 (n := K * wd s + K) (by omega), w64 (by omega), hsum]
  have z2 : wrap64 (7 * K) = K * 7 := by rw [w64 (by omega), Int.mul_comm]
  have z3 : wrap64 (K * wd (s ++ t) * (K * 7)) = K * wd (s ++ t) * (K * 7) := w64 (by omega)
  simp only [hwid, z1, z2, z3, if_true, if_pos f6]
  refine ev_loop (fun k i (_ : Unit) => barscanlaw47_FontJoins.l0 k s K (pict (s ++ t) K) ((pict (s ++ t) K).length : Int) i (K * wd s) (K * 7) (pict s K) (K * wd t) (K * 7) (pict t K) (K * wd (s ++ t)) (K * 7) (pict (s ++ t) K)) 0 ((pict (s ++ t) K).length : Int) (by omega) (fun _ _ => True) true ?_ ?_ () trivial
  · intro i u hi hil _ KK
    have x0 := Int.emod_nonneg i (show K * wd (s ++ t) ≠ 0 by omega)
    have x1 := Int.emod_lt_of_pos i (show 0 < K * wd (s ++ t) by omega)
    have y0 := Int.ediv_nonneg hi (show 0 ≤ K * wd (s ++ t) by omega)
    have y1 : i / (K * wd (s ++ t)) < K * 7 := div_lt (by omega) (by omega)
    have em : Int.tmod i (K * wd (s ++ t)) = i % (K * wd (s ++ t)) := Int.tmod_eq_emod_of_nonneg hi
    have ed : wrap64 (Int.tdiv i (K * wd (s ++ t))) = i / (K * wd (s ++ t)) := by rw [Int.tdiv_eq_ediv_of_nonneg hi]; exact w64 (by omega)
    have ex : wrap64 (wrap64 (i % (K * wd (s ++ t)) - K * wd s) - K) = i % (K * wd (s ++ t)) - K * wd s - K := by
      rw [w64 (n := i % (K * wd (s ++ t)) - K * wd s) (by omega), w64 (by omega)]
    have hd : rdOf false (pict (s ++ t) K) i = paint (s ++ t) (i % (K * wd (s ++ t)) / K) (i / (K * wd (s ++ t)) / K) := by
      have := mod_div (w := K * wd (s ++ t)) (by omega) i
      have hg := upto_getD (w := K * wd (s ++ t)) (g := fun U V => paint (s ++ t) (U / K) (V / K)) (n := (K * wd (s ++ t) * (K * 7)).toNat) (d := false) x0 x1 y0 (by omega)
      rw [this] at hg
      exact hg
    have hj := joined s1 t1 K1 x0 x1 y0 y1
    rw [← hd] at hj
    refine Ev.step (f := fun k => barscanlaw47_FontJoins.l0 k s K (pict (s ++ t) K) ((pict (s ++ t) K).length : Int) (i + 1) (K * wd s) (K * 7) (pict s K) (K * wd t) (K * 7) (pict t K) (K * wd (s ++ t)) (K * 7) (pict (s ++ t) K)) (fun k => ?_) (KK () trivial)
    rw [barscanlaw47_FontJoins.l0, if_pos hil, if_pos hi, if_pos hil, if_neg (by omega), em, ed, ex, w64 (n := i + 1) (by omega), At_eq, At_eq, if_pos Vs, if_pos Vt, Option.bind_some, Option.bind_some, hj]
    cases pix false (K * wd s) (K * 7) (pict s K) (i % (K * wd (s ++ t))) (i / (K * wd (s ++ t))) <;> cases pix false (K * wd t) (K * 7) (pict t K) (i % (K * wd (s ++ t)) - K * wd s - K) (i / (K * wd (s ++ t))) <;> rfl
  · intro u _
    have c1 : chk s 1 = 0 := chk_of s1 sA (by omega) (by omega) (by omega)
    refine Ev.step (f := fun k => (font_Draw.f k s 1).bind fun bt416 => ((raster_Enlarge.f k bt416.1 bt416.2.1 bt416.2.2.1 K).bind fun bt423 => (if bt416.2.2.2 = 0 then (if bt423.2.2.2 = 0 then ((barscanlaw47_same.f k bt423.1 bt423.2.1 bt423.2.2.1 (K * wd s) (K * 7) (pict s K)).bind fun t430 => (if t430 = true then ((barscanlaw47_examples.f k).bind fun t431 => (some t431)) else (none))) else (none)) else (none)))) (fun k => ?_) ?_
    · rw [barscanlaw47_FontJoins.l0, if_neg (by omega)]
    have D := Draw_ev s 1 hs
    rw [drw_ok c1, pict_one, Int.one_mul, Int.one_mul] at D
    refine Ev.bind D ?_
    have hKw : wd s * K ≤ 4096 := by rw [Int.mul_comm]; omega
    refine Ev.bind (enlarge_base s1 K1 (by omega) hKw) ?_
    simp only [if_true]
    refine Ev.bind (same_self _ _ _ ls) ?_
    simp only [if_true]
    exact E
end Go.Proofs.Ytghfcdgdbdeomaa.Pure
