/-
Render and Bars and their references answer the table of the modules. Conditions: as each theorem says.
-/
import Derived.Test.YtbipbbckfmilfaaXBase
import Derived.Test.YtbipbbckfmilfaaPRx6
import Derived.Test.YtbipbbckfmilfaaPRx5
namespace Go.Proofs.Ytbipbbckfmilfaa.Pure
set_option linter.unusedVariables false
set_option linter.unusedSimpArgs false
open Go.RowKit Go.Proofs.Ytbipbbckfmilfaa.PR Go.Proofs.YtbipbbckfmilfaaW.PrintWords Go.Proofs.YtbipbbckfmilfaaW.PrintLast Go.Proofs.YtbipbbckfmilfaaW.PrintMore Go.Proofs.Ytbipbbckfmilfaa.XWords Go.Proofs.Ytbipbbckfmilfaa.XPure

/-- A pixel of a drawn table of modules: A columns and B rows a module, a margin M. -/
def drawG (w h : Int) (l : List Bool) (A B M u v : Int) : Bool := if M ≤ u ∧ u < M + A * w ∧ M ≤ v ∧ v < M + B * h then l.getD ((v - M) / B * w + (u - M) / A).toNat false else false
theorem quot_in {K w u : Int} (hK : 1 ≤ K) (h0 : 0 ≤ u) (h1 : u < K * w) : 0 ≤ u / K ∧ u / K < w ∧ Int.tdiv u K = u / K := by
  refine ⟨Int.ediv_nonneg h0 (by omega), Int.ediv_lt_of_lt_mul (by omega) (by rw [Int.mul_comm]; exact h1), Int.tdiv_eq_ediv_of_nonneg h0⟩
theorem row_eq {w u v x y : Int} (hu0 : 0 ≤ u) (hu : u < w) (hx0 : 0 ≤ x) (hx : x < w) (e : v * w + u = y * w + x) : v = y ∧ u = x := by
  have a : (v * w + u) / w = v := row_div hu0 hu
  have b : (y * w + x) / w = y := row_div hx0 hx
  rw [e] at a
  have hv : v = y := a.symm.trans b
  subst hv
  exact ⟨rfl, by omega⟩
theorem getD_set {α : Type} (l : List α) (i j : Nat) (x d : α) (hi : i < l.length) : (l.set i x).getD j d = if j = i then x else l.getD j d := by
  simp only [List.getD_eq_getElem?_getD, List.getElem?_set]
  by_cases h : i = j
  · subst h
    rw [if_pos rfl, if_pos hi, if_pos rfl]
    rfl
  · rw [if_neg h, if_neg (fun hh => h hh.symm)]

theorem draw_ok {w h : Int} {l : List Bool} {A B M : Int} (hw : 1 ≤ w) (hw2 : w ≤ 65536) (hh : 1 ≤ h) (hh2 : h ≤ 4096) (hl : (l.length : Int) = w * h) (hA : 1 ≤ A) (hA2 : A ≤ 64) (hB : 1 ≤ B) (hB2 : B ≤ 4096) (hM : 0 ≤ M) (hM2 : M ≤ 4096) (F : Fits (A * w + 2 * M) (B * h + 2 * M)) :
    Ev (fun k => printing_draw.f k w h l A B M) (A * w + 2 * M, B * h + 2 * M, upto (A * w + 2 * M) (drawG w h l A B M) ((A * w + 2 * M) * (B * h + 2 * M)).toNat, 0) := by
  unfold printing_draw.f
  obtain ⟨G1, G2, G3, G4, G5⟩ := id F
  have hp := F.pos
  have hAw : 1 ≤ A * w := Int.le_trans (show (1 : Int) ≤ 1 * 1 by decide) (Int.mul_le_mul hA hw (by omega) (by omega))
  have hBh : 1 ≤ B * h := Int.le_trans (show (1 : Int) ≤ 1 * 1 by decide) (Int.mul_le_mul hB hh (by omega) (by omega))
  have hww : w * 1 ≤ w * A := Int.mul_le_mul_of_nonneg_left hA (by omega)
  have hhh : h * 1 ≤ h * B := Int.mul_le_mul_of_nonneg_left hB (by omega)
  rw [Int.mul_comm w A] at hww
  rw [Int.mul_comm h B] at hhh
  have hwh := mul_bound hw (show w ≤ 4096 by omega) hh (show h ≤ 4096 by omega)
  rw [w64 (n := A * w) (by omega), w64 (n := B * h) (by omega), w64 (n := 2 * M) (by omega), w64 (n := A * w + 2 * M) (by omega), w64 (n := B * h + 2 * M) (by omega), new_eq, if_pos F]
  simp only [Option.bind_some, if_true]
  generalize hW : A * w + 2 * M = W at *
  generalize hH : B * h + 2 * M = H at *
  -- what the loops have drawn: the rows above, and in the row itself the columns to the left
  let I : Int → Int → List Bool → Prop := fun v u out => (out.length : Int) = W * H ∧ ∀ x y, 0 ≤ x → x < W → 0 ≤ y → y < H → out.getD (y * W + x).toNat false = if y < v + M ∨ (y = v + M ∧ x < u + M) then drawG w h l A B M x y else false
  refine ev_loop (fun k v out => printing_draw.l0 k A B M (B * h) v w h l W H out) 0 (B * h) (by omega) (fun v out => I v 0 out) _ ?_ ?_ _ ?_
  · intro v out hv0 hv hI K
    refine Ev.step (f := fun k => printing_draw.l1 k A B M v (B * h) v (A * w) 0 w h l W H out) (fun k => ?_) ?_
    · simp only [printing_draw.l0]
      rw [if_pos hv, w64 (n := A * w) (by omega)]
    refine ev_loop (fun k u out => printing_draw.l1 k A B M v (B * h) v (A * w) u w h l W H out) 0 (A * w) (by omega) (fun u out => I v u out) _ ?_ ?_ out hI
    · intro u out hu0 hu hI K
      obtain ⟨a1, a2, a3⟩ := quot_in hA hu0 hu
      obtain ⟨b1, b2, b3⟩ := quot_in hB hv0 hv
      have c1 : v / B * w + u / A < w * h := row_lt a2 a1 b2 b1
      have c2 : 0 ≤ v / B * w + u / A := row_nonneg (by omega) a1 b1
      have c3 : 0 ≤ v / B * w := Int.mul_nonneg b1 (by omega)
      have d1 := row_lt (w := W) (h := H) (u := u + M) (v := v + M) (by omega) (by omega) (by omega) (by omega)
      have d2 : 0 ≤ (v + M) * W := Int.mul_nonneg (by omega) (by omega)
      have e1 : wrap64 (u / A) = u / A := w64 (by omega)
      have e2 : wrap64 (v / B) = v / B := w64 (by omega)
      have e3 : wrap64 (v / B * w) = v / B * w := w64 (by omega)
      have e4 : wrap64 (v / B * w + u / A) = v / B * w + u / A := w64 (by omega)
      have e5 : wrap64 (v + M) = v + M := w64 (by omega)
      have e6 : wrap64 ((v + M) * W) = (v + M) * W := w64 (by omega)
      have e7 : wrap64 ((v + M) * W + u) = (v + M) * W + u := w64 (by omega)
      have e8 : wrap64 ((v + M) * W + u + M) = (v + M) * W + u + M := w64 (by omega)
      refine Ev.step (f := fun k => printing_draw.l1 k A B M v (B * h) v (A * w) (u + 1) w h l W H (out.set ((v + M) * W + u + M).toNat (rdOf false l (v / B * w + u / A)))) (fun k => ?_) (K _ ?_)
      · simp only [printing_draw.l1, a3, b3, e1, e2, e3, e4, e5, e6, e7, e8]
        rw [if_pos hu, if_neg (by omega), if_neg (by omega), if_pos c2, if_pos (by omega), if_pos (by omega), if_pos (by have := hI.1; omega), w64 (n := u + 1) (by omega)]
      · refine ⟨by rw [List.length_set]; exact hI.1, fun x y hx0 hx hy0 hy => ?_⟩
        rw [getD_set _ _ _ _ _ (by have := hI.1; omega), hI.2 x y hx0 hx hy0 hy]
        have hxy := row_nonneg (w := W) (u := x) (v := y) (by omega) hx0 hy0
        by_cases heq : (y * W + x).toNat = ((v + M) * W + u + M).toNat
        · have := row_eq (w := W) (u := x) (v := y) (x := u + M) (y := v + M) hx0 hx (by omega) (by omega) (by omega)
          obtain ⟨r1, r2⟩ := this
          subst r1; subst r2
          rw [if_pos heq, if_pos (by omega)]
          unfold drawG
          rw [if_pos (by omega)]
          have r3 : v + M - M = v := by omega
          have r4 : u + M - M = u := by omega
          rw [r3, r4]
          rfl
        · rw [if_neg heq]
          have hne : ¬ (y = v + M ∧ x = u + M) := by
            rintro ⟨r1, r2⟩
            apply heq
            rw [r1, r2]
            congr 1
            omega
          by_cases hc : y < v + M ∨ (y = v + M ∧ x < u + M)
          · rw [if_pos hc, if_pos (by omega)]
          · rw [if_neg hc, if_neg (by omega)]
    · intro out hI
      refine Ev.step (f := fun k => printing_draw.l0 k A B M (B * h) (v + 1) w h l W H out) (fun k => ?_) (K _ ?_)
      · simp only [printing_draw.l1]
        rw [if_neg (by omega), w64 (n := v + 1) (by omega)]
      · refine ⟨hI.1, fun x y hx0 hx hy0 hy => ?_⟩
        rw [hI.2 x y hx0 hx hy0 hy]
        by_cases hc : y < v + M ∨ (y = v + M ∧ x < A * w + M)
        · rw [if_pos hc, if_pos (by omega)]
        · rw [if_neg hc]
          by_cases hc2 : y < v + 1 + M ∨ (y = v + 1 + M ∧ x < 0 + M)
          · rw [if_pos hc2]
            unfold drawG
            rw [if_neg (by omega)]
          · rw [if_neg hc2]
  · intro out hI
    refine ev_end (fun k => ?_)
    simp only [printing_draw.l0]
    rw [if_neg (by omega), ← upto_of (w := W) (h := H) (d := false) (l := out) (by omega) hI.1]
    intro x y hx0 hx hy0 hy
    rw [hI.2 x y hx0 hx hy0 hy]
    by_cases hc : y < B * h + M ∨ (y = B * h + M ∧ x < 0 + M)
    · rw [if_pos hc]
    · rw [if_neg hc]
      unfold drawG
      rw [if_neg (by omega)]
  · refine ⟨by rw [List.length_replicate]; omega, fun x y hx0 hx hy0 hy => ?_⟩
    rw [getD_replicate]
    by_cases hc : y < 0 + M ∨ (y = 0 + M ∧ x < 0 + M)
    · rw [if_pos hc]
      unfold drawG
      rw [if_neg (by omega)]
    · rw [if_neg hc]
theorem draw_bad {w h : Int} {l : List Bool} {A B M : Int} (F : ¬ Fits (wrap64 (wrap64 (A * w) + wrap64 (2 * M))) (wrap64 (wrap64 (B * h) + wrap64 (2 * M)))) : ∀ k, printing_draw.f k w h l A B M = some (0, 0, [], 4) := by
  intro k
  unfold printing_draw.f
  rw [new_eq, if_neg F]
  rfl
/-- The sizes of Render. -/
theorem sizes {w h s q : Int} (V1 : 1 ≤ w) (V2 : w ≤ 4096) (V3 : 1 ≤ h) (V4 : h ≤ 4096) (O : Opts s q) : wrap64 (q * s) = q * s ∧ 0 ≤ q * s ∧ q * s ≤ 4096 ∧ wrap64 (wrap64 (s * w) + wrap64 (2 * (q * s))) = s * w + 2 * (q * s) ∧ wrap64 (wrap64 (s * h) + wrap64 (2 * (q * s))) = s * h + 2 * (q * s) := by
  obtain ⟨o1, o2, o3, o4⟩ := O
  have h1 : 0 ≤ q * s := Int.mul_nonneg o3 (by omega)
  have h2 : q * s ≤ 64 * 64 := Int.mul_le_mul o4 o2 (by omega) (by omega)
  have h3 := mul_bound o1 (show s ≤ 4096 by omega) V1 V2
  have h4 := mul_bound o1 (show s ≤ 4096 by omega) V3 V4
  refine ⟨w64 (by omega), h1, by omega, ?_, ?_⟩
  · rw [w64 (n := s * w) (by omega), w64 (n := 2 * (q * s)) (by omega), w64 (by omega)]
  · rw [w64 (n := s * h) (by omega), w64 (n := 2 * (q * s)) (by omega), w64 (by omega)]
theorem render_ok {w h : Int} {l : List Bool} {s q : Int} (V : Valid w h l.length) (O : Opts s q) (F : Fits (s * w + 2 * (q * s)) (s * h + 2 * (q * s))) :
    Ev (fun k => printing_Render.f k w h l s q) (s * w + 2 * (q * s), s * h + 2 * (q * s), upto (s * w + 2 * (q * s)) (drawG w h l s s (q * s)) ((s * w + 2 * (q * s)) * (s * h + 2 * (q * s))).toNat, 0) := by
  obtain ⟨⟨F1, F2, F3, F4, F5⟩, hl⟩ := id V
  obtain ⟨o1, o2, o3, o4⟩ := id O
  obtain ⟨z1, z2, z3, z4, z5⟩ := sizes F1 F2 F3 F4 O
  unfold printing_Render.f
  rw [check_eq, if_pos V, valid43_eq, decide_eq_true O, z1]
  simp only [Option.bind_some, if_true]
  exact Ev.bind (draw_ok F1 (by omega) F3 F4 hl o1 o2 o1 (by omega) z2 z3 F) (Ev.now _)
/-- The error of Render. -/
def renderErr (w h : Int) (n : Nat) (s q : Int) : Int := if ¬ Valid w h n then 1 else if ¬ Opts s q then 3 else 4
theorem render_bad {w h : Int} {l : List Bool} {s q : Int} (B : ¬ (Valid w h l.length ∧ Opts s q ∧ Fits (s * w + 2 * (q * s)) (s * h + 2 * (q * s)))) : ∀ k, printing_Render.f k w h l s q = some (0, 0, [], renderErr w h l.length s q) := by
  intro k
  unfold printing_Render.f renderErr
  rw [check_eq, valid43_eq]
  by_cases V : Valid w h l.length
  · rw [if_pos V, if_neg (fun hh => hh V)]
    simp only [Option.bind_some, if_true]
    by_cases O : Opts s q
    · have hO : ¬ ¬ Opts s q := fun hh => hh O
      simp only [decide_eq_true O, if_neg hO, if_true]
      obtain ⟨⟨F1, F2, F3, F4, F5⟩, hl⟩ := id V
      obtain ⟨z1, z2, z3, z4, z5⟩ := sizes F1 F2 F3 F4 O
      rw [z1, draw_bad (by rw [z4, z5]; exact fun F => B ⟨V, O, F⟩)]
      rfl
    · rw [decide_eq_false O, if_pos O]
      rfl
  · rw [if_neg V, if_pos V]
    rfl
end Go.Proofs.Ytbipbbckfmilfaa.Pure
