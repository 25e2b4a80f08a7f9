/-
The references of Render and Bars answer as Render and Bars do. Conditions: as each theorem says.
-/
import Derived.Test.YtbipbbckfmilfaaXRender
import Derived.Test.YtbipbbckfmilfaaPRx24
import Derived.Test.YtbipbbckfmilfaaPRx25
import Derived.Test.YtbipbbckfmilfaaPRx27
import Derived.Test.YtbipbbckfmilfaaPRx26
namespace Go.Proofs.Ytbipbbckfmilfaa.Pure
set_option linter.unusedVariables false
set_option linter.unusedSimpArgs false
open Go.RowKit Go.Proofs.Ytbipbbckfmilfaa.PR Go.Proofs.YtbipbbckfmilfaaW.PrintWords Go.Proofs.YtbipbbckfmilfaaW.PrintLast Go.Proofs.YtbipbbckfmilfaaW.PrintMore Go.Proofs.Ytbipbbckfmilfaa.XWords Go.Proofs.Ytbipbbckfmilfaa.XPure

theorem refAt_eq (w h : Int) (l : List Bool) (x y : Int) : barscanref31_At.f w h l x y = some (if Valid w h l.length then pix false w h l x y else false) := by
  unfold barscanref31_At.f
  rw [valid_eq]
  by_cases V : Valid w h l.length
  · simp only [decide_eq_true V, Option.bind_some, if_true, if_pos V]
    by_cases h1 : x ≥ 0
    · by_cases h2 : x < w
      · by_cases h3 : y ≥ 0
        · by_cases h4 : y < h
          · obtain ⟨e1, e2, e3, e4, e5, _⟩ := V.spot h1 h2 h3 h4
            rw [if_pos h1, if_pos h2, if_pos h3, if_pos h4, e1, e2, if_pos e4, if_pos e5, pix_in h1 h2 h3 h4]
            rfl
          · rw [if_pos h1, if_pos h2, if_pos h3, if_neg h4, pix_out (by omega)]
        · rw [if_pos h1, if_pos h2, if_neg h3, pix_out (by omega)]
      · rw [if_pos h1, if_neg h2, pix_out (by omega)]
    · rw [if_neg h1, pix_out (by omega)]
  · simp [V]
theorem right_eq (s q : Int) : barscanref43_right.f s q = some (decide (Opts s q)) := valid43_eq s q
/-- A place in a module row, from both sides. -/
theorem module_at {s q u : Int} (hs : 1 ≤ s) : (u - q * s) / s = u / s - q ∧ ∀ w, (q * s ≤ u ∧ u < q * s + s * w ↔ 0 ≤ u / s - q ∧ u / s - q < w) := by
  have e : (u - q * s) / s = u / s - q := by
    have : u - q * s = u + -q * s := by rw [Int.neg_mul]; omega
    rw [this, Int.add_mul_ediv_right _ _ (by omega)]
    omega
  refine ⟨e, fun w => ?_⟩
  rw [← e]
  constructor
  · rintro ⟨h1, h2⟩
    exact ⟨Int.ediv_nonneg (by omega) (by omega), Int.ediv_lt_of_lt_mul (by omega) (by rw [Int.mul_comm w s]; omega)⟩
  · rintro ⟨h1, h2⟩
    have h3 := Int.mul_ediv_add_emod (u - q * s) s
    have h4 := Int.emod_nonneg (u - q * s) (show s ≠ 0 by omega)
    have h5 := Int.emod_lt_of_pos (u - q * s) (show 0 < s by omega)
    have h6 : 0 ≤ s * ((u - q * s) / s) := Int.mul_nonneg (by omega) h1
    have h7 : s * ((u - q * s) / s + 1) ≤ s * w := Int.mul_le_mul_of_nonneg_left (by omega) (by omega)
    rw [Int.mul_add, Int.mul_one] at h7
    omega
theorem drawG_pix {w h s q u v : Int} {l : List Bool} (hs : 1 ≤ s) : drawG w h l s s (q * s) u v = pix false w h l (u / s - q) (v / s - q) := by
  obtain ⟨e1, c1⟩ := module_at (s := s) (q := q) (u := u) hs
  obtain ⟨e2, c2⟩ := module_at (s := s) (q := q) (u := v) hs
  unfold drawG pix
  rw [e1, e2]
  by_cases hc : 0 ≤ u / s - q ∧ u / s - q < w ∧ 0 ≤ v / s - q ∧ v / s - q < h
  · have a := (c1 w).2 ⟨hc.1, hc.2.1⟩
    have b := (c2 h).2 ⟨hc.2.2.1, hc.2.2.2⟩
    rw [if_pos hc, if_pos ⟨a.1, a.2, b.1, b.2⟩]
  · rw [if_neg hc, if_neg]
    rintro ⟨a1, a2, b1, b2⟩
    have a := (c1 w).1 ⟨a1, a2⟩
    have b := (c2 h).1 ⟨b1, b2⟩
    exact hc ⟨a.1, a.2, b.1, b.2⟩
theorem refSize {w s q : Int} (hw : 1 ≤ w) (hw2 : w ≤ 65536) (O : Opts s q) : wrap64 (wrap64 (w + wrap64 (2 * q)) * s) = s * w + 2 * (q * s) ∧ 1 ≤ s * w ∧ s * w ≤ 4194304 := by
  obtain ⟨o1, o2, o3, o4⟩ := O
  have h1 : 0 ≤ q * s := Int.mul_nonneg o3 (by omega)
  have h2 : q * s ≤ 64 * 64 := Int.mul_le_mul o4 o2 (by omega) (by omega)
  have h3 : 1 ≤ s * w := Int.le_trans (show (1 : Int) ≤ 1 * 1 by decide) (Int.mul_le_mul o1 hw (by omega) (by omega))
  have h4 : s * w ≤ 64 * 65536 := Int.mul_le_mul o2 hw2 (by omega) (by omega)
  have e : (w + 2 * q) * s = s * w + 2 * (q * s) := by rw [Int.add_mul, Int.mul_comm w s, Int.mul_assoc]
  refine ⟨?_, h3, by omega⟩
  rw [w64 (n := 2 * q) (by omega), w64 (n := w + 2 * q) (by omega), e, w64 (by omega)]
theorem refRender_ok {w h : Int} {l : List Bool} {s q : Int} (V : Valid w h l.length) (O : Opts s q) (F : Fits (s * w + 2 * (q * s)) (s * h + 2 * (q * s))) :
    Ev (fun k => barscanref43_Render.f k w h l s q) (s * w + 2 * (q * s), s * h + 2 * (q * s), upto (s * w + 2 * (q * s)) (drawG w h l s s (q * s)) ((s * w + 2 * (q * s)) * (s * h + 2 * (q * s))).toNat, 0) := by
  obtain ⟨⟨F1, F2, F3, F4, F5⟩, hl⟩ := id V
  obtain ⟨o1, o2, o3, o4⟩ := id O
  obtain ⟨G1, G2, G3, G4, G5⟩ := id F
  have e1 := (refSize F1 (by omega) O).1
  have e2 := (refSize F3 (by omega) O).1
  unfold barscanref43_Render.f
  rw [valid_eq, decide_eq_true V, right_eq, decide_eq_true O, e1, e2, fits43_eq, decide_eq_true F]
  simp only [Option.bind_some, if_true]
  generalize s * w + 2 * (q * s) = W at *
  generalize s * h + 2 * (q * s) = H at *
  refine ev_table W H (by omega) (by omega) (drawG w h l s s (q * s)) (fun k v acc => barscanref43_Render.l0 k v w h l s q W H acc) (fun k v u acc => barscanref43_Render.l1 k v u w h l s q W H acc) (fun acc => (W, H, acc, 0)) ?_ ?_ ?_ ?_
  · intro k v acc hv0 hv
    simp only [barscanref43_Render.l0]
    rw [if_pos hv]
  · intro k v u acc hv0 hv hu0 hu hal
    have := row_lt (w := W) (h := H) hu hu0 hv hv0
    have b1 : 0 ≤ u / s := Int.ediv_nonneg hu0 (by omega)
    have b2 : u / s ≤ u := Int.ediv_le_self _ hu0
    have b3 : 0 ≤ v / s := Int.ediv_nonneg hv0 (by omega)
    have b4 : v / s ≤ v := Int.ediv_le_self _ hv0
    simp only [barscanref43_Render.l1, refAt_eq, if_pos V, Option.bind_some, Int.tdiv_eq_ediv_of_nonneg hu0, Int.tdiv_eq_ediv_of_nonneg hv0]
    rw [if_pos hu, if_neg (by omega), w64 (n := u / s) (by omega), w64 (n := u / s - q) (by omega), w64 (n := v / s) (by omega), w64 (n := v / s - q) (by omega), if_pos (by omega), w64 (n := u + 1) (by omega), drawG_pix o1]
  · intro k v acc hv0 hv
    simp only [barscanref43_Render.l1]
    rw [if_neg (by omega), w64 (by omega)]
  · intro k acc
    simp only [barscanref43_Render.l0]
    rw [if_neg (by omega)]
theorem refRender_bad {w h : Int} {l : List Bool} {s q : Int} (B : ¬ (Valid w h l.length ∧ Opts s q ∧ Fits (s * w + 2 * (q * s)) (s * h + 2 * (q * s)))) : ∀ k, barscanref43_Render.f k w h l s q = some (0, 0, [], renderErr w h l.length s q) := by
  intro k
  unfold barscanref43_Render.f renderErr
  rw [valid_eq, right_eq]
  by_cases V : Valid w h l.length
  · have hV : ¬ ¬ Valid w h l.length := fun hh => hh V
    simp only [decide_eq_true V, if_neg hV, Option.bind_some, if_true]
    by_cases O : Opts s q
    · have hO : ¬ ¬ Opts s q := fun hh => hh O
      simp only [decide_eq_true O, if_neg hO, if_true]
      obtain ⟨⟨F1, F2, F3, F4, F5⟩, hl⟩ := id V
      rw [(refSize F1 (by omega) O).1, (refSize F3 (by omega) O).1, fits43_eq, decide_eq_false (fun F => B ⟨V, O, F⟩)]
      rfl
    · simp only [decide_eq_false O, if_pos O]
      rfl
  · simp only [decide_eq_false V, if_pos V]
    rfl

/-! ### Bars -/
/-- The conditions under which Bars answers a bitmap. -/
def BarsOk (n : Nat) (h s q : Int) : Prop := 1 ≤ n ∧ n ≤ 65536 ∧ 1 ≤ h ∧ h ≤ 4096 ∧ Opts s q ∧ Fits (s * n + 2 * (q * s)) (h * 1 + 2 * (q * s))
/-- What Bars answers. -/
def barsOf (l : List Bool) (h s q : Int) : Int × Int × List Bool × Int := (s * l.length + 2 * (q * s), h * 1 + 2 * (q * s), upto (s * l.length + 2 * (q * s)) (drawG l.length 1 l s h (q * s)) ((s * l.length + 2 * (q * s)) * (h * 1 + 2 * (q * s))).toNat, 0)
theorem bars_ok {l : List Bool} {h s q : Int} (B : BarsOk l.length h s q) : Ev (fun k => printing_Bars.f k l h s q) (barsOf l h s q) := by
  obtain ⟨b1, b2, b3, b4, O, F⟩ := B
  obtain ⟨o1, o2, o3, o4⟩ := id O
  have z2 : 0 ≤ q * s := Int.mul_nonneg o3 (by omega)
  have z3 : q * s ≤ 64 * 64 := Int.mul_le_mul o4 o2 (by omega) (by omega)
  unfold printing_Bars.f
  have c1 : ¬ (l.length : Int) = 0 := by omega
  have c2 : ¬ (l.length : Int) > 65536 := by omega
  have c3 : ¬ h < 1 := by omega
  have c4 : ¬ h > 4096 := by omega
  rw [valid43_eq, decide_eq_true O]
  simp only [if_neg c1, if_neg c2, if_neg c3, if_neg c4, Option.bind_some, if_true]
  rw [w64 (n := q * s) (by omega)]
  exact Ev.bind (draw_ok (by omega) (by omega) (by omega) (by omega) (by omega) o1 o2 b3 b4 z2 (by omega) F) (Ev.now _)
theorem refBars_ok {l : List Bool} {h s q : Int} (B : BarsOk l.length h s q) : Ev (fun k => barscanref43_Bars.f k l h s q) (barsOf l h s q) := by
  obtain ⟨b1, b2, b3, b4, O, F⟩ := B
  obtain ⟨o1, o2, o3, o4⟩ := id O
  obtain ⟨G1, G2, G3, G4, G5⟩ := id F
  have z2 : 0 ≤ q * s := Int.mul_nonneg o3 (by omega)
  have z3 : q * s ≤ 64 * 64 := Int.mul_le_mul o4 o2 (by omega) (by omega)
  unfold barscanref43_Bars.f
  have c1 : ¬ (l.length : Int) = 0 := by omega
  have c2 : ¬ (l.length : Int) > 65536 := by omega
  have c3 : ¬ h < 1 := by omega
  have c4 : ¬ h > 4096 := by omega
  rw [right_eq, decide_eq_true O]
  simp only [if_neg c1, if_neg c2, if_neg c3, if_neg c4, Option.bind_some, Bool.not_true]
  have e1 := (refSize (w := l.length) (by omega) (by omega) O).1
  have e2 : wrap64 (h + wrap64 (2 * (q * s))) = h * 1 + 2 * (q * s) := by
    rw [w64 (n := 2 * (q * s)) (by omega), Int.mul_one, w64 (by omega)]
  have e3 : wrap64 (q * s) = q * s := w64 (by omega)
  refine Ev.step (f := fun k => barscanref43_Bars.l0 k l h l.length (q * s) 0 s q (s * l.length + 2 * (q * s)) (h * 1 + 2 * (q * s)) []) (fun k => ?_) ?_
  · simp only [barscanref43_Bars.j0, e1, e3, e2, fits43_eq, decide_eq_true F]
    rfl
  unfold barsOf
  have hn1 : (1 : Int) ≤ l.length := by omega
  generalize hWW : s * (l.length : Int) + 2 * (q * s) = W at *
  generalize hHH : h * 1 + 2 * (q * s) = H at *
  refine ev_table W H (by omega) (by omega) (drawG l.length 1 l s h (q * s)) (fun k v acc => barscanref43_Bars.l0 k l h l.length (q * s) v s q W H acc) (fun k v u acc => barscanref43_Bars.l1 k l h l.length (q * s) v u s q W H acc) (fun acc => (W, H, acc, 0)) ?_ ?_ ?_ ?_
  · intro k v acc hv0 hv
    simp only [barscanref43_Bars.l0]
    rw [if_pos hv]
  · intro k v u acc hv0 hv hu0 hu hal
    have := row_lt (w := W) (h := H) hu hu0 hv hv0
    have d1 : 0 ≤ u / s := Int.ediv_nonneg hu0 (by omega)
    have d2 : u / s ≤ u := Int.ediv_le_self _ hu0
    obtain ⟨m1, m2⟩ := module_at (s := s) (q := q) (u := u) o1
    have m3 := m2 l.length
    have el : acc.length < 140737488355328 := by omega
    simp only [barscanref43_Bars.l1, Int.tdiv_eq_ediv_of_nonneg hu0]
    rw [if_pos hu, if_neg (by omega), w64 (n := u / s) (by omega), w64 (n := u / s - q) (by omega), w64 (n := u + 1) (by omega), w64 (n := q * s + h) (by omega)]
    unfold drawG
    by_cases c5 : u / s - q ≥ 0
    · by_cases c6 : u / s - q < l.length
      · have c7 := m3.2 ⟨c5, c6⟩
        rw [if_pos c5, if_pos c6, if_pos c5, if_pos c6]
        by_cases c8 : v ≥ q * s
        · by_cases c9 : v < q * s + h
          · have hz : (v - q * s) / h = 0 := Int.ediv_eq_zero_of_lt (by omega) (by omega)
            rw [if_pos (show q * s ≤ u ∧ u < q * s + s * (l.length : Int) ∧ q * s ≤ v ∧ v < q * s + h * 1 by omega), hz, m1, Int.zero_mul, Int.zero_add]
            by_cases cb : rdOf false l (u / s - q) = true
            · rw [if_pos cb, if_pos c8, if_pos el, decide_eq_true c9]
              rw [show l.getD (u / s - q).toNat false = true from cb]
            · rw [if_neg cb, if_pos el]
              rw [show l.getD (u / s - q).toNat false = false from by simpa [rdOf] using cb]
          · rw [if_neg (show ¬ (q * s ≤ u ∧ u < q * s + s * (l.length : Int) ∧ q * s ≤ v ∧ v < q * s + h * 1) by omega), decide_eq_false c9]
            by_cases cb : rdOf false l (u / s - q) = true
            · rw [if_pos cb, if_pos c8, if_pos el]
            · rw [if_neg cb, if_pos el]
        · rw [if_neg (show ¬ (q * s ≤ u ∧ u < q * s + s * (l.length : Int) ∧ q * s ≤ v ∧ v < q * s + h * 1) by omega)]
          by_cases cb : rdOf false l (u / s - q) = true
          · rw [if_pos cb, if_neg c8, if_pos el]
          · rw [if_neg cb, if_pos el]
      · rw [if_pos c5, if_neg c6, if_pos el, if_neg]
        rintro ⟨x1, x2, _⟩
        exact c6 (m3.1 ⟨x1, x2⟩).2
    · rw [if_neg c5, if_pos el, if_neg]
      rintro ⟨x1, x2, _⟩
      exact c5 (m3.1 ⟨x1, x2⟩).1
  · intro k v acc hv0 hv
    simp only [barscanref43_Bars.l1]
    rw [if_neg (by omega), w64 (by omega)]
  · intro k acc
    simp only [barscanref43_Bars.l0]
    rw [if_neg (by omega)]
/-- The error of Bars. -/
def barsErr (n : Nat) (h s q : Int) : Int := if n = 0 then 5 else if n > 65536 then 4 else if h < 1 ∨ h > 4096 ∨ ¬ Opts s q then 3 else 4
theorem bars_bad {l : List Bool} {h s q : Int} (B : ¬ BarsOk l.length h s q) : Ev (fun k => printing_Bars.f k l h s q) (0, 0, [], barsErr l.length h s q) ∧ Ev (fun k => barscanref43_Bars.f k l h s q) (0, 0, [], barsErr l.length h s q) := by
  unfold printing_Bars.f barscanref43_Bars.f barsErr
  by_cases h0 : l.length = 0
  · have h0' : (l.length : Int) = 0 := by omega
    simp only [if_pos h0, if_pos h0']
    exact ⟨Ev.now _, Ev.now _⟩
  have h0' : ¬ (l.length : Int) = 0 := by omega
  simp only [if_neg h0, if_neg h0']
  by_cases h1 : l.length > 65536
  · have h1' : (l.length : Int) > 65536 := by omega
    simp only [if_pos h1, if_pos h1']
    exact ⟨Ev.now _, Ev.now _⟩
  have h1' : ¬ (l.length : Int) > 65536 := by omega
  simp only [if_neg h1, if_neg h1']
  by_cases h2 : h < 1
  · have h2' : h < 1 ∨ h > 4096 ∨ ¬ Opts s q := .inl h2
    simp only [if_pos h2, if_pos h2']
    exact ⟨Ev.now _, ev_end (fun k => by simp [barscanref43_Bars.j0])⟩
  simp only [if_neg h2]
  by_cases h3 : h > 4096
  · have h3' : h < 1 ∨ h > 4096 ∨ ¬ Opts s q := .inr (.inl h3)
    simp only [if_pos h3, if_pos h3']
    exact ⟨Ev.now _, ev_end (fun k => by simp [barscanref43_Bars.j0])⟩
  simp only [if_neg h3, valid43_eq, right_eq, Option.bind_some]
  by_cases O : Opts s q
  · have hO : ¬ (h < 1 ∨ h > 4096 ∨ ¬ Opts s q) := by
      rintro (x | x | x)
      · exact h2 x
      · exact h3 x
      · exact x O
    simp only [decide_eq_true O, if_true, if_neg hO, Bool.not_true]
    obtain ⟨o1, o2, o3, o4⟩ := id O
    have z2 : 0 ≤ q * s := Int.mul_nonneg o3 (by omega)
    have z3 : q * s ≤ 64 * 64 := Int.mul_le_mul o4 o2 (by omega) (by omega)
    obtain ⟨e1, y1, y2⟩ := refSize (w := l.length) (by omega) (by omega) O
    have nF : ¬ Fits (s * l.length + 2 * (q * s)) (h * 1 + 2 * (q * s)) := fun F => B ⟨by omega, by omega, by omega, by omega, O, F⟩
    have e3 : wrap64 (q * s) = q * s := w64 (by omega)
    constructor
    · refine Ev.bind (Ev.congr (fun k => draw_bad ?_ k) (Ev.now _)) (Ev.now _)
      rw [e3, w64 (n := s * (l.length : Int)) (by omega), w64 (n := 2 * (q * s)) (by omega), w64 (n := s * (l.length : Int) + 2 * (q * s)) (by omega), w64 (n := h * 1) (by omega), w64 (n := h * 1 + 2 * (q * s)) (by omega)]
      exact nF
    · refine ev_end (fun k => ?_)
      have e2 : wrap64 (h + wrap64 (2 * (q * s))) = h * 1 + 2 * (q * s) := by
        rw [w64 (n := 2 * (q * s)) (by omega), Int.mul_one, w64 (by omega)]
      simp only [barscanref43_Bars.j0, e1, e3, e2, fits43_eq, decide_eq_false nF]
      rfl
  · have hO : h < 1 ∨ h > 4096 ∨ ¬ Opts s q := .inr (.inr O)
    simp only [decide_eq_false O, if_pos hO, Bool.not_false]
    exact ⟨Ev.now _, ev_end (fun k => by simp [barscanref43_Bars.j0])⟩
end Go.Proofs.Ytbipbbckfmilfaa.Pure
