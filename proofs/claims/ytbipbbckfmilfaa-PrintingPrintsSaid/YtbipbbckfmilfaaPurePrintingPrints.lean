/-
PrintingPrints, over numbers and rows alone. Conditions: none.
-/
import Derived.Test.YtbipbbckfmilfaaStmtPrintingPrints
import Derived.Test.YtbipbbckfmilfaaXRefBlur
import Derived.Test.YtbipbbckfmilfaaXRefPlacesP
import Derived.Test.YtbipbbckfmilfaaXTurnGray
import Derived.Test.YtbipbbckfmilfaaPRx6
namespace Go.Proofs.Ytbipbbckfmilfaa.Pure
set_option linter.unusedVariables false
set_option linter.unusedSimpArgs false
open Go.RowKit Go.Proofs.Ytbipbbckfmilfaa.PR Go.Proofs.YtbipbbckfmilfaaW.PrintWords Go.Proofs.YtbipbbckfmilfaaW.PrintLast Go.Proofs.YtbipbbckfmilfaaW.PrintMore Go.Proofs.Ytbipbbckfmilfaa.XWords Go.Proofs.Ytbipbbckfmilfaa.XPure
/-- One place of an image inverted. -/
def flipI (l : List Int) (b : Int) : List Int := l.set b.toNat ((255 - l.getD b.toNat 0) % 256)
theorem flipsI_length (ps : List Int) : ∀ l : List Int, (ps.foldl flipI l).length = l.length := by
  induction ps with
  | nil => intro l; rfl
  | cons p ps ih => intro l; rw [List.foldl_cons, ih]; simp [flipI]
theorem take_next {ps : List Int} {i : Nat} (h : i < ps.length) : ps.take (i + 1) = ps.take i ++ [ps.getD i 0] := by
  rw [List.take_succ_eq_append_getElem h, List.getD_eq_getElem?_getD, List.getElem?_eq_getElem h]
  rfl
theorem ev_flipsI {β : Type} (ps : List Int) (l : List Int) (hps : ∀ b ∈ ps, 0 ≤ b ∧ b < (l.length : Int)) (L : Nat → Int → List Int → Option β) (fin : List Int → β)
    (h1 : ∀ k i acc, 0 ≤ i → i < (ps.length : Int) → acc.length = l.length → 0 ≤ ps.getD i.toNat 0 → ps.getD i.toNat 0 < (l.length : Int) → L (k + 1) i acc = L k (i + 1) (flipI acc (ps.getD i.toNat 0)))
    (h3 : ∀ k acc, L (k + 1) ps.length acc = some (fin acc)) : Ev (fun k => L k 0 l) (fin (ps.foldl flipI l)) := by
  refine ev_loop L 0 ps.length (by omega) (fun i acc => acc = (ps.take i.toNat).foldl flipI l) _ ?_ ?_ l rfl
  · intro i acc hi hin hI K
    have hlt : i.toNat < ps.length := by omega
    have hm : ps.getD i.toNat 0 ∈ ps := by
      rw [List.getD_eq_getElem?_getD, List.getElem?_eq_getElem hlt]
      exact List.getElem_mem hlt
    have hr := hps _ hm
    refine Ev.step (f := fun k => L k (i + 1) (flipI acc (ps.getD i.toNat 0))) (fun k => h1 k i acc hi hin (by rw [hI, flipsI_length]) hr.1 hr.2) (K _ ?_)
    have e : (i + 1).toNat = i.toNat + 1 := by omega
    rw [e, take_next hlt, List.foldl_append, ← hI]
    rfl
  · intro acc hI
    have e : ((ps.length : Nat) : Int).toNat = ps.length := by omega
    rw [e, List.take_length] at hI
    subst hI
    exact ev_end (fun k => h3 k _)
theorem mean_range {w h : Int} {l : List Int} {r : Int} {n : Nat} : ∀ x ∈ upto w (meanOf w h l r) n, 0 ≤ x ∧ x ≤ 255 := by
  intro x hx
  unfold upto at hx
  obtain ⟨i, _, rfl⟩ := List.mem_map.1 hx
  unfold meanOf
  omega
/-- Both prints answer the same. -/
theorem prints_same (w h : Int) (l : List Bool) (t r n a : Int) : ∃ R : Int × Int × List Int × Int, Ev (fun k => printing_Print.f k w h l t r n a) R ∧ Ev (fun k => barscanref43_Print.f k w h l t r n a) R ∧ R.2.2.1.length ≤ 4194304 := by
  unfold printing_Print.f barscanref43_Print.f
  rw [check_eq]
  by_cases V : Valid w h l.length
  case neg =>
    refine ⟨(0, 0, [], 1), ?_, ?_, by simp⟩
    · rw [if_neg V]
      exact Ev.now _
    · refine Ev.bind (⟨0, fun k _ => refTurn_b_bad V t k⟩ : Ev (fun k => barscanref31_Turn.f k w h l t) (0, 0, [], 1)) ?_
      exact Ev.now _
  rw [if_pos V]
  simp only [Option.bind_some, if_true]
  obtain ⟨F, hl⟩ := id V
  have hx := tab_of false V
  generalize (fun u v => l.getD (v * w + u).toNat false) = g at hx
  have Fx : Fits ((w, h, g) : (Int × Int × (Int → Int → Bool))).1 ((w, h, g) : (Int × Int × (Int → Int → Bool))).2.1 := F
  have T := refTurn_b_ok Fx t
  have Fy := rotN_fits (t % 4).toNat (w, h, g) Fx
  have hG := gray_ok V
  have e1 : l.map grayOf = tab (gr (w, h, g)) := by rw [tab_gr, ← hx]
  have TI := turnImage_ok (x := gr (w, h, g)) Fx t
  rw [rotN_gr] at TI
  have T' : Ev (fun k => barscanref31_Turn.f k w h l t) ((rotN (t % 4).toNat (w, h, g)).1, (rotN (t % 4).toNat (w, h, g)).2.1, tab (rotN (t % 4).toNat (w, h, g)), 0) := by
    rw [hx]
    exact T
  have hG' : Ev (fun k => raster_Gray.f k w h l) (w, h, tab (gr (w, h, g)), 0) := by rw [← e1]; exact hG
  have hprod : (rotN (t % 4).toNat (w, h, g)).1 * (rotN (t % 4).toNat (w, h, g)).2.1 = w * h := by
    have key : ∀ (m : Nat) (x : Int × Int × (Int → Int → Bool)), (rotN m x).1 * (rotN m x).2.1 = x.1 * x.2.1 := by
      intro m
      induction m with
      | zero => intro x; rfl
      | succ m ih =>
        intro x
        have := ih (rot x)
        rw [show rotN (m + 1) x = rotN m (rot x) from rfl, this]
        exact Int.mul_comm _ _
    exact key _ _
  generalize rotN (t % 4).toNat (w, h, g) = y at T' Fy TI hprod
  have Vy := tab_valid Fy
  have Ry := refGray_ok Vy
  have hGy : (tab y).map grayOf = tab (gr y) := (tab_gr y).symm
  rw [hGy] at Ry
  have hrng : ∀ z ∈ tab (gr y), 0 ≤ z ∧ z ≤ 255 := by rw [← hGy]; exact gray_range _
  have Vg : Valid y.1 y.2.1 (tab (gr y)).length := tab_valid (x := gr y) Fy
  have hPl := refPlaces_ok (w := y.1) (h := y.2.1) (n := n) (a := a)
  have hpos := F.pos
  have h5 := F.2.2.2.2
  have nF : ¬ ¬ Fits y.1 y.2.1 := fun hh => hh Fy
  have hperr : placesErr y.1 y.2.1 n = if n < 0 ∨ n > mn (l.length : Int) 65536 then 3 else 0 := by
    unfold placesErr
    rw [if_neg nF, hprod, hl]
  by_cases c1 : r < 0
  · refine ⟨(0, 0, [], 3), ?_, ?_, by simp⟩
    · simp only [if_pos c1]
      exact Ev.now _
    · refine Ev.bind T' ?_
      refine Ev.bind Ry ?_
      refine Ev.bind (refBlur_range Vg (show ¬ (0 ≤ r ∧ r ≤ 64) by omega)) ?_
      exact Ev.now _
  by_cases c2 : r > 64
  · refine ⟨(0, 0, [], 3), ?_, ?_, by simp⟩
    · simp only [if_neg c1, if_pos c2]
      exact Ev.now _
    · refine Ev.bind T' ?_
      refine Ev.bind Ry ?_
      refine Ev.bind (refBlur_range Vg (show ¬ (0 ≤ r ∧ r ≤ 64) by omega)) ?_
      exact Ev.now _
  have B1 := blur_ok (r := r) Vg hrng (by omega) (by omega)
  have B2 := refBlur_ok (r := r) Vg hrng (by omega) (by omega)
  have hBl : ((upto y.1 (meanOf y.1 y.2.1 (tab (gr y)) r) (y.1 * y.2.1).toNat).length : Int) = w * h := by
    rw [upto_length, hprod]
    omega
  generalize upto y.1 (meanOf y.1 y.2.1 (tab (gr y)) r) (y.1 * y.2.1).toNat = B at B1 B2 hBl
  by_cases c3 : n < 0
  · refine ⟨(0, 0, [], 3), ?_, ?_, by simp⟩
    · simp only [if_neg c1, if_neg c2, if_pos c3]
      exact Ev.now _
    · rw [if_pos (Or.inl c3)] at hperr
      rw [hperr, if_neg (by decide)] at hPl
      refine Ev.bind T' ?_
      refine Ev.bind Ry ?_
      refine Ev.bind B2 ?_
      simp only [if_true]
      refine Ev.bind hPl ?_
      exact Ev.now _
  by_cases c4 : n > mn (l.length : Int) 65536
  · refine ⟨(0, 0, [], 3), ?_, ?_, by simp⟩
    · simp only [if_neg c1, if_neg c2, if_neg c3, if_pos c4]
      exact Ev.now _
    · rw [if_pos (Or.inr c4)] at hperr
      rw [hperr, if_neg (by decide)] at hPl
      refine Ev.bind T' ?_
      refine Ev.bind Ry ?_
      refine Ev.bind B2 ?_
      simp only [if_true]
      refine Ev.bind hPl ?_
      exact Ev.now _
  rw [if_neg (fun hh => hh.elim c3 c4)] at hperr
  rw [hperr, if_pos rfl, hprod] at hPl
  have hm : n ≤ w * h := by
    unfold mn at c4
    split at c4 <;> omega
  have P := places_ok (size := w * h) (n := n) (a := a) (by omega) (by omega) (by omega) hm
  have I := pl_inv (size := w * h) (s := seed0 a) (by omega) n.toNat (by omega)
  have hpl : (placesOf (w * h) n.toNat a).length ≤ 4194304 := by
    have := I.out
    unfold placesOf
    omega
  have hrg : ∀ b ∈ placesOf (w * h) n.toNat a, 0 ≤ b ∧ b < (B.length : Int) := by
    intro b hb
    have := I.rng b hb
    omega
  refine ⟨(y.1, y.2.1, (placesOf (w * h) n.toNat a).foldl flipI B, 0), ?_, ?_, ?_⟩
  · simp only [if_neg c1, if_neg c2, if_neg c3, if_neg c4]
    refine Ev.bind hG' ?_
    refine Ev.bind (a := (y.1, y.2.1, tab (gr y))) ?_ ?_
    · unfold printing_degradations_1.f
      exact Ev.bind TI (Ev.now _)
    refine Ev.bind (a := (y.1, y.2.1, B)) ?_ ?_
    · unfold printing_degradations_2.f
      exact Ev.bind B1 (Ev.now _)
    refine Ev.bind (a := (y.1, y.2.1, (placesOf (w * h) n.toNat a).foldl flipI B)) ?_ (Ev.now _)
    unfold printing_degradations_3.f slices_Clone_uint8_uint8.f
    simp only [if_pos (show B.length < 140737488355328 by omega), Option.bind_some, hBl]
    refine Ev.bind P ?_
    refine ev_flipsI (placesOf (w * h) n.toNat a) B hrg (fun k i acc => printing_degradations_3.l0 k (placesOf (w * h) n.toNat a) (placesOf (w * h) n.toNat a).length i y.1 y.2.1 acc) (fun acc => (y.1, y.2.1, acc)) ?_ ?_
    · intro k i acc hi hin hal r0 r1
      simp only [printing_degradations_3.l0]
      rw [if_pos hin, if_pos hi, if_pos hin, if_pos (show 0 ≤ rd _ i from r0), if_pos (show rd _ i < _ from by rw [hal]; exact r1), w64 (n := i + 1) (by omega)]
      rfl
    · intro k acc
      simp only [printing_degradations_3.l0]
      rw [if_neg (by omega)]
  · refine Ev.bind T' ?_
    refine Ev.bind Ry ?_
    refine Ev.bind B2 ?_
    simp only [if_true]
    refine Ev.bind hPl ?_
    simp only [if_true, Option.bind_some, List.length_nil, Nat.zero_add, List.nil_append, if_pos (show B.length < 140737488355328 by omega)]
    refine ev_flipsI (placesOf (w * h) n.toNat a) B hrg (fun k i acc => barscanref43_Print.l0 k (placesOf (w * h) n.toNat a) i y.1 y.2.1 acc) (fun acc => (y.1, y.2.1, acc, 0)) ?_ ?_
    · intro k i acc hi hin hal r0 r1
      simp only [barscanref43_Print.l0]
      rw [if_pos hin, if_pos hi, if_pos (show 0 ≤ rd _ i from r0), if_pos (show rd _ i < _ from by rw [hal]; exact r1), w64 (n := i + 1) (by omega)]
      rfl
    · intro k acc
      simp only [barscanref43_Print.l0]
      rw [if_neg (by omega)]
  · rw [flipsI_length]
    omega
theorem PrintingPrints : barscanlaw43_PrintingPrints.Pure := by
  intro w h l t r n a _ _ _ _ _ _ _
  refine Ev.rounds (g := fun k => barscanlaw43_PrintingPrints.f k w h l t r n a) ?_
  unfold barscanlaw43_PrintingPrints.f
  by_cases c : (l.length : Int) > 1000
  · simp only [if_pos c]
    exact Ev.bind examples_ok (Ev.now _)
  · simp only [if_neg c]
    obtain ⟨R, h1, h2, h3⟩ := prints_same w h l t r n a
    refine Ev.bind h1 ?_
    refine Ev.bind h2 ?_
    refine Ev.bind (equal43_self h3) ?_
    simp only [if_true]
    exact Ev.bind examples_ok (Ev.now _)
end Go.Proofs.Ytbipbbckfmilfaa.Pure
