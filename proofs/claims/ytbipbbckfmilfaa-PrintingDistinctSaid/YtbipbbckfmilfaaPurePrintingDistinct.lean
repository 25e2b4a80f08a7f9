/-
PrintingDistinct over numbers and rows: the places are different and within, fewer are the first ones, the same dirt twice restores. Conditions: none.
-/
import Derived.Test.YtbipbbckfmilfaaStmtPrintingDistinct
import Derived.Test.YtbipbbckfmilfaaXDirt
import Derived.Test.YtbipbbckfmilfaaXSame
import Derived.Test.YtbipbbckfmilfaaXInts
namespace Go.Proofs.Ytbipbbckfmilfaa.Pure
set_option linter.unusedVariables false
open Go.RowKit Go.Proofs.Ytbipbbckfmilfaa.PR Go.Proofs.YtbipbbckfmilfaaW.PrintWords Go.Proofs.YtbipbbckfmilfaaW.PrintLast Go.Proofs.YtbipbbckfmilfaaW.PrintMore Go.Proofs.Ytbipbbckfmilfaa.XWords Go.Proofs.Ytbipbbckfmilfaa.XPure
theorem flip1_getD {l : List Bool} {p : Int} (h0 : 0 ≤ p) (h1 : p < (l.length : Int)) (j : Nat) : (flip1 l p).getD j false = if (j : Int) = p then !(l.getD j false) else l.getD j false := by
  unfold flip1
  simp only [List.getD_eq_getElem?_getD, List.getElem?_set]
  by_cases h : p.toNat = j
  · subst h
    rw [if_pos rfl, if_pos (by omega), if_pos (by omega)]
    rfl
  · rw [if_neg h, if_neg (by omega)]
theorem flips_getD : ∀ (ps : List Int) (l : List Bool), ps.Nodup → (∀ b ∈ ps, 0 ≤ b ∧ b < (l.length : Int)) → ∀ j : Nat, (ps.foldl flip1 l).getD j false = if (j : Int) ∈ ps then !(l.getD j false) else l.getD j false
  | [], l, _, _, j => by simp
  | p :: ps, l, hn, hr, j => by
    have hp := hr p (List.mem_cons_self ..)
    have hn' := List.nodup_cons.1 hn
    rw [List.foldl_cons, flips_getD ps (flip1 l p) hn'.2 (fun b hb => by
      have := hr b (List.mem_cons_of_mem _ hb)
      simpa [flip1] using this) j, flip1_getD hp.1 hp.2]
    by_cases c : (j : Int) = p
    · rw [if_pos c, if_neg (by rw [c]; exact hn'.1), if_pos (by rw [c]; exact List.mem_cons_self ..)]
    · rw [if_neg c]
      by_cases c2 : (j : Int) ∈ ps
      · rw [if_pos c2, if_pos (List.mem_cons_of_mem _ c2)]
      · rw [if_neg c2, if_neg (fun hh => (List.mem_cons.1 hh).elim c c2)]
theorem flips_twice (ps : List Int) (l : List Bool) (hn : ps.Nodup) (hr : ∀ b ∈ ps, 0 ≤ b ∧ b < (l.length : Int)) : ps.foldl flip1 (ps.foldl flip1 l) = l := by
  have hl := flips_length ps l
  apply List.ext_getElem?
  intro j
  by_cases hj : j < l.length
  · have e := flips_getD ps (ps.foldl flip1 l) hn (by rw [hl]; exact hr) j
    rw [flips_getD ps l hn hr j] at e
    have e2 : (ps.foldl flip1 (ps.foldl flip1 l)).getD j false = l.getD j false := by
      rw [e]
      split <;> simp
    rw [List.getD_eq_getElem?_getD, List.getD_eq_getElem?_getD, List.getElem?_eq_getElem (by rw [flips_length, hl]; exact hj), List.getElem?_eq_getElem hj] at e2
    rw [List.getElem?_eq_getElem (by rw [flips_length, hl]; exact hj), List.getElem?_eq_getElem hj]
    simpa using e2
  · rw [List.getElem?_eq_none (by rw [flips_length, hl]; omega), List.getElem?_eq_none (by omega)]
theorem valid10000_eq (w h : Int) (l : List Bool) : barscanlaw43_valid.f w h l 10000 = some (decide (1 ≤ w ∧ w ≤ 4096 ∧ 1 ≤ h ∧ h ≤ 4096 ∧ w * h ≤ 10000 ∧ (l.length : Int) = w * h)) := by
  have hm : mn 10000 4096 = 4096 := rfl
  unfold barscanlaw43_valid.f
  rw [hm]
  by_cases h1 : 1 ≤ w
  · by_cases h2 : w ≤ 4096
    · by_cases h3 : 1 ≤ h
      · by_cases h4 : h ≤ 4096
        · rw [w64_mul h1 (by omega) h3 (by omega)]
          by_cases h5 : w * h ≤ 10000
          · by_cases h6 : (l.length : Int) = w * h <;> simp [h1, h2, h3, h4, h5, h6]
          · simp [h1, h2, h3, h4, h5]
        · simp [h1, h2, h3, h4]
      · simp [h1, h2, h3]
    · simp [h1, h2]
  · simp [h1]
theorem PrintingDistinct : barscanlaw43_PrintingDistinct.Pure := by
  intro w h l n fewer a _ _ hl wn wf wa
  refine Ev.rounds (g := fun k => barscanlaw43_PrintingDistinct.f k w h l n fewer a) ?_
  have un := wf_u16 wn
  have uf := wf_u16 wf
  have he : Ev (fun k => (barscanlaw43_examples.f k).bind fun t => some t) true := Ev.bind examples_ok (Ev.now _)
  unfold barscanlaw43_PrintingDistinct.f
  simp only [valid10000_eq, Option.bind_some, decide_eq_true_eq]
  by_cases B : 1 ≤ w ∧ w ≤ 4096 ∧ 1 ≤ h ∧ h ≤ 4096 ∧ w * h ≤ 10000 ∧ (l.length : Int) = w * h
  · simp only [if_pos B]
    obtain ⟨h1, h2, h3, h4, h5, h6⟩ := B
    have F : Fits w h := ⟨h1, h2, h3, h4, by omega⟩
    have V : Valid w h l.length := ⟨F, h6⟩
    have nF : ¬ ¬ Fits w h := fun hh => hh F
    have nV : ¬ ¬ Valid w h l.length := fun hh => hh V
    have hp := F.pos
    have e0 : wrap64 ((l.length : Int) + 1) = (l.length : Int) + 1 := w64 (by omega)
    have k0 := Int.emod_nonneg n (show (l.length : Int) + 1 ≠ 0 by omega)
    have k1 := Int.emod_lt_of_pos n (show 0 < (l.length : Int) + 1 by omega)
    rw [e0, w64 (n := n) (by omega), Int.tmod_eq_emod_of_nonneg un.1]
    generalize n % ((l.length : Int) + 1) = K at *
    have c0 : ¬ (l.length : Int) + 1 = 0 := by omega
    simp only [if_neg c0]
    have ez : ∀ x : Int, 0 ≤ x → x ≤ (l.length : Int) → placesErr w h x = 0 := fun x x0 x1 => by
      unfold placesErr
      rw [if_neg nF, if_neg]
      unfold mn
      split <;> omega
    have I := pl_inv (size := w * h) (s := seed0 a) (by omega) K.toNat (by omega)
    have hps : (placesOf (w * h) K.toNat a).length = K.toNat := I.out
    have hPK := Places_ok (w := w) (h := h) (n := K) (a := a)
    rw [if_pos (ez K k0 (by omega)), ez K k0 (by omega)] at hPK
    refine Ev.bind hPK ?_
    have c1 : ((placesOf (w * h) K.toNat a).length : Int) = K := by omega
    have c2 : (0 : Int) ≤ l.length := by omega
    have c3 : ((l.length : Int)).toNat ≤ 281474976710656 := by omega
    simp only [if_true, if_pos c1, if_pos c2, if_pos c3]
    have hrng : ∀ b ∈ placesOf (w * h) K.toNat a, 0 ≤ b ∧ b < (l.length : Int) := fun b hb => by
      have := I.rng b hb
      omega
    have hnod : (placesOf (w * h) K.toNat a).Nodup := I.nod
    have hpt := pl_take (w * h) (seed0 a) (by omega) K.toNat
    have hD : ∀ m : List Bool, m.length = l.length → Ev (fun k => printing_Dirt.f k w h m K a) (w, h, (placesOf (w * h) K.toNat a).foldl flip1 m, 0) := fun m hm => by
      have hV : Valid w h m.length := by rw [hm]; exact V
      have nV' : ¬ ¬ Valid w h m.length := fun hh => hh hV
      have := dirt_ok (w := w) (h := h) (l := m) (n := K) (a := a)
      unfold dirtOf at this
      have ed : dirtErr w h m K = 0 := by
        unfold dirtErr
        rw [if_neg nV', if_neg]
        unfold mn
        split <;> omega
      rw [if_pos ed, hm, h6] at this
      exact this
    generalize hP : placesOf (w * h) K.toNat a = ps at *
    have fl := flips_getD ps l hnod hrng
    have f2 := flips_twice ps l hnod hrng
    have flen := flips_length ps l
    -- the last loop
    have last : ∀ taken : List Bool, taken.length = l.length → (∀ j : Nat, taken.getD j false = true ↔ (j : Int) ∈ ps) → Ev (fun k => barscanlaw43_PrintingDistinct.l1 k taken l l.length 0 w h (ps.foldl flip1 l)) true := by
      intro taken ht hm
      refine ev_loop (fun k i (_ : Unit) => barscanlaw43_PrintingDistinct.l1 k taken l l.length i w h (ps.foldl flip1 l)) 0 l.length (by omega) (fun _ _ => True) _ ?_ ?_ () trivial
      · intro i _ hi hin _ K
        refine Ev.step (f := fun k => barscanlaw43_PrintingDistinct.l1 k taken l l.length (i + 1) w h (ps.foldl flip1 l)) (fun k => ?_) (K () trivial)
        simp only [barscanlaw43_PrintingDistinct.l1]
        rw [if_pos hin, if_pos hi, if_pos hin, if_pos (by omega), if_pos (by omega), w64 (n := i + 1) (by omega), if_neg]
        unfold rdOf
        have e1 := fl i.toNat
        have e2 := hm i.toNat
        rw [Int.toNat_of_nonneg hi] at e1 e2
        rw [e1]
        by_cases c : i ∈ ps
        · rw [if_pos c, e2.2 c]
          cases l.getD i.toNat false <;> decide
        · have : taken.getD i.toNat false = false := by simpa using fun hh => c (e2.1 hh)
          rw [if_neg c, this]
          cases l.getD i.toNat false <;> decide
      · intro _ _
        refine Ev.step (fun k => ?_) he
        simp only [barscanlaw43_PrintingDistinct.l1]
        rw [if_neg (by omega)]
    refine ev_loop (fun k i (taken : List Bool) => barscanlaw43_PrintingDistinct.l0 k fewer a K ps taken ps ps.length i w h l) 0 ps.length (by omega) (fun i taken => taken.length = l.length ∧ ∀ j : Nat, taken.getD j false = true ↔ (j : Int) ∈ ps.take i.toNat) _ ?_ ?_ _ ?_
    · intro i taken hi hin ⟨ht, hI⟩ Kc
      have hlt : i.toNat < ps.length := by omega
      have hg : ps.getD i.toNat 0 = ps[i.toNat] := by rw [List.getD_eq_getElem?_getD, List.getElem?_eq_getElem hlt]; rfl
      have hmem : ps.getD i.toNat 0 ∈ ps := by rw [hg]; exact List.getElem_mem hlt
      have hr := hrng _ hmem
      have hfree : taken.getD (ps.getD i.toNat 0).toNat false = false := by
        have hx := hI (ps.getD i.toNat 0).toNat
        rw [Int.toNat_of_nonneg hr.1] at hx
        have : ps.getD i.toNat 0 ∉ ps.take i.toNat := by
          intro hm
          obtain ⟨q, hq, e⟩ := List.mem_iff_getElem.1 hm
          rw [List.length_take] at hq
          rw [List.getElem_take, hg] at e
          have := (List.getElem_inj hnod).1 e
          omega
        simpa using fun hh => this (hx.1 hh)
      refine Ev.step (f := fun k => barscanlaw43_PrintingDistinct.l0 k fewer a K ps (taken.set (ps.getD i.toNat 0).toNat true) ps ps.length (i + 1) w h l) (fun k => ?_) (Kc _ ?_)
      · simp only [barscanlaw43_PrintingDistinct.l0]
        rw [if_pos hin, if_pos hi, if_pos hin, if_neg (show ¬ rd ps i < 0 by unfold rd; omega), if_neg (show ¬ rd ps i ≥ (taken.length : Int) by unfold rd; omega), if_pos (show 0 ≤ rd ps i from hr.1), if_pos (show rd ps i < (taken.length : Int) by unfold rd; omega),
          if_neg (show ¬ rdOf false taken (rd ps i) = true by unfold rdOf rd; rw [hfree]; decide), w64 (n := i + 1) (by omega)]
        rfl
      · refine ⟨by rw [List.length_set]; exact ht, fun j => ?_⟩
        have e1 : (i + 1).toNat = i.toNat + 1 := by omega
        rw [e1, take_succ_getD hlt, getD_set_bool _ _ _ (by omega), List.mem_append, List.mem_singleton]
        by_cases cj : j = (ps.getD i.toNat 0).toNat
        · rw [if_pos cj]
          simp only [true_iff]
          right
          omega
        · rw [if_neg cj, hI j]
          constructor
          · intro hh; exact .inl hh
          · rintro (hh | hh)
            · exact hh
            · omega
    · intro taken ⟨ht, hI⟩
      have e1 : ((ps.length : Nat) : Int).toNat = ps.length := by omega
      rw [e1, List.take_length] at hI
      have ek : wrap64 (K + 1) = K + 1 := w64 (by omega)
      have j0 := Int.emod_nonneg fewer (show K + 1 ≠ 0 by omega)
      have j1 := Int.emod_lt_of_pos fewer (show 0 < K + 1 by omega)
      have ck : ¬ K + 1 = 0 := by omega
      refine Ev.step (f := fun k => _) (fun k => by
        simp only [barscanlaw43_PrintingDistinct.l0]
        rw [if_neg (show ¬ (ps.length : Int) < ps.length by omega), ek, if_neg ck, w64 (n := fewer) (by omega), Int.tmod_eq_emod_of_nonneg uf.1]) ?_
      generalize fewer % (K + 1) = J at *
      have hPJ := Places_ok (w := w) (h := h) (n := J) (a := a)
      rw [if_pos (ez J j0 (by omega)), ez J j0 (by omega)] at hPJ
      refine Ev.bind hPJ (Ev.bind (hD l rfl) (Ev.bind (hD _ flen) ?_))
      have cJ : J ≤ (ps.length : Int) := by omega
      simp only [if_true, if_pos j0, if_pos cJ]
      have et : placesOf (w * h) J.toNat a = ps.take J.toNat := by
        rw [← hP]
        exact (hpt J.toNat (by omega) (by omega)).symm
      rw [et, f2]
      refine Ev.bind (ints_self _ (by rw [List.length_take]; omega)) ?_
      simp only [if_true]
      refine Ev.bind (same_self _ _ _ (by omega)) ?_
      have cl : ((ps.foldl flip1 l).length : Int) = l.length := by rw [flen]
      simp only [if_true, if_pos cl]
      exact last taken ht hI
    · refine ⟨by rw [List.length_replicate]; omega, fun j => ?_⟩
      rw [getD_replicate]
      simp
  · simp only [if_neg B]
    exact he
end Go.Proofs.Ytbipbbckfmilfaa.Pure
