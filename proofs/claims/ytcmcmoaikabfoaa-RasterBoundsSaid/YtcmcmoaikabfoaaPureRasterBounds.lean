/-
RasterBounds over numbers and rows: the box and the dark pixels are those of the reference. Conditions: none.
-/
import Derived.Test.YtcmcmoaikabfoaaStmtRasterBounds
import Derived.Test.YtcmcmoaikabfoaaXPure
namespace Go.Proofs.Ytcmcmoaikabfoaa.Pure
set_option linter.unusedVariables false
set_option linter.unusedSimpArgs false
open Go.RowKit Go.Proofs.Ytcmcmoaikabfoaa.PR Go.Proofs.YtcmcmoaikabfoaaW.PrintWords Go.Proofs.YtcmcmoaikabfoaaW.PrintLast Go.Proofs.YtcmcmoaikabfoaaW.PrintMore Go.Proofs.Ytcmcmoaikabfoaa.XWords Go.Proofs.Ytcmcmoaikabfoaa.XPure
open Go.Proofs.Ytcmcmoaikabfoaa.XPixels (dots bstep bout dots_length)

/-- The sizes that bitmaps have. -/
def Fits (w h : Int) : Prop := 1 ≤ w ∧ w ≤ 4096 ∧ 1 ≤ h ∧ h ≤ 4096 ∧ w * h ≤ 4194304
instance (w h : Int) : Decidable (Fits w h) := by unfold Fits; infer_instance
/-- A valid bitmap or image. -/
def Valid (w h : Int) (n : Nat) : Prop := Fits w h ∧ (n : Int) = w * h
instance (w h : Int) (n : Nat) : Decidable (Valid w h n) := by unfold Valid; infer_instance

theorem mul_bound {w h : Int} (h1 : 1 ≤ w) (h2 : w ≤ 4096) (h3 : 1 ≤ h) (h4 : h ≤ 4096) : 1 ≤ w * h ∧ w * h ≤ 16777216 := by
  have a : 1 * 1 ≤ w * h := Int.mul_le_mul h1 h3 (by omega) (by omega)
  have b : w * h ≤ 4096 * 4096 := Int.mul_le_mul h2 h4 (by omega) (by omega)
  omega
theorem Fits.pos {w h : Int} (F : Fits w h) : 1 ≤ w * h := (mul_bound F.1 F.2.1 F.2.2.1 F.2.2.2.1).1
theorem w64_mul {w h : Int} (h1 : 1 ≤ w) (h2 : w ≤ 4096) (h3 : 1 ≤ h) (h4 : h ≤ 4096) : wrap64 (w * h) = w * h := by
  have := mul_bound h1 h2 h3 h4
  exact w64 (by omega)
theorem Fits.w64 {w h : Int} (F : Fits w h) : wrap64 (w * h) = w * h := w64_mul F.1 F.2.1 F.2.2.1 F.2.2.2.1

theorem possible_eq (w h : Int) : raster_possible.f w h = some (decide (Fits w h)) := by
  unfold raster_possible.f Fits
  by_cases h1 : w ≥ 1
  · by_cases h2 : w ≤ 4096
    · by_cases h3 : h ≥ 1
      · by_cases h4 : h ≤ 4096
        · rw [if_pos h1, if_pos h2, if_pos h3, if_pos h4, w64_mul h1 h2 h3 h4]
          have h1' : 1 ≤ w := h1
          have h3' : 1 ≤ h := h3
          simp [h1', h2, h3', h4]
        · simp [h1, h2, h3, h4]
      · simp [h1, h2, h3]
    · simp [h1, h2]
  · simp [h1]
theorem fits_eq (w h : Int) : barscanref31_fits.f w h = some (decide (Fits w h)) := possible_eq w h
theorem check_eq (w h : Int) (l : List Bool) : raster_Check.f w h l = some (if Valid w h l.length then 0 else 1) := by
  unfold raster_Check.f Valid
  rw [possible_eq]
  by_cases F : Fits w h
  · simp only [decide_eq_true F, Option.bind_some, if_true, F.w64, F, true_and]
    by_cases h1 : (l.length : Int) = w * h
    · rw [if_pos h1, if_pos h1]; rfl
    · rw [if_neg h1, if_neg h1]; rfl
  · simp [F]
theorem valid_eq (w h : Int) (l : List Bool) : barscanref31_Valid.f w h l = some (decide (Valid w h l.length)) := by
  unfold barscanref31_Valid.f Valid
  rw [fits_eq]
  by_cases F : Fits w h
  · simp only [decide_eq_true F, Option.bind_some, if_true, F.w64, F, true_and]
    rfl
  · simp [F]
/-- A pixel of a table; those outside have the default. -/
def pix {α : Type} (d : α) (w h : Int) (l : List α) (x y : Int) : α := if 0 ≤ x ∧ x < w ∧ 0 ≤ y ∧ y < h then l.getD (y * w + x).toNat d else d
theorem pix_in {α : Type} {d : α} {w h : Int} {l : List α} {x y : Int} (h1 : 0 ≤ x) (h2 : x < w) (h3 : 0 ≤ y) (h4 : y < h) : pix d w h l x y = l.getD (y * w + x).toNat d := if_pos ⟨h1, h2, h3, h4⟩
theorem pix_out {α : Type} {d : α} {w h : Int} {l : List α} {x y : Int} (h0 : ¬ (0 ≤ x ∧ x < w ∧ 0 ≤ y ∧ y < h)) : pix d w h l x y = d := if_neg h0
theorem Valid.spot {w h : Int} {n : Nat} (V : Valid w h n) {x y : Int} (h1 : 0 ≤ x) (h2 : x < w) (h3 : 0 ≤ y) (h4 : y < h) :
    wrap64 (y * w) = y * w ∧ wrap64 (y * w + x) = y * w + x ∧ 0 ≤ y * w ∧ 0 ≤ y * w + x ∧ y * w + x < n ∧ y * w + w ≤ n ∧ (n : Int) ≤ 4194304 := by
  have a : 0 ≤ y * w := Int.mul_nonneg h3 (by omega)
  have b := row_lt (w := w) (h := h) h2 h1 h4 h3
  have c := row_lt (w := w) (h := h) (u := w - 1) (by omega) (by omega) h4 h3
  have d := V.2
  have e := V.1.2.2.2.2
  refine ⟨w64 ?_, w64 ?_, ?_⟩ <;> omega
theorem examples_ok : Ev (fun k => barscanlaw31_examples.f k) true := Ev.of (g := fun k => barscanlaw31_examples.f k) (barscanlaw31_examples.mono) (k := 60) (by decide +kernel)
theorem mem_dots {w : Int} {l : List Bool} {n : Nat} {p : Int × Int} : p ∈ dots w l n ↔ ∃ i : Nat, i < n ∧ l.getD i false = true ∧ p = ((i : Int) % w, (i : Int) / w) := by
  induction n with
  | zero => simp [dots]
  | succ n ih =>
    simp only [dots, List.mem_append, ih]
    constructor
    · rintro (⟨i, hi, h1, h2⟩ | h)
      · exact ⟨i, by omega, h1, h2⟩
      · by_cases hd : l.getD n false = true
        · rw [if_pos hd] at h
          exact ⟨n, by omega, hd, by simpa using h⟩
        · rw [if_neg hd] at h
          simp at h
    · rintro ⟨i, hi, h1, h2⟩
      by_cases hin : i < n
      · exact .inl ⟨i, hin, h1, h2⟩
      · have : i = n := by omega
        subst this
        right
        rw [if_pos h1]
        simpa using h2
/-- The dark pixels by their places. -/
theorem mem_dots_pix {w h : Int} {l : List Bool} (V : Valid w h l.length) {x y : Int} : (x, y) ∈ dots w l l.length ↔ pix false w h l x y = true := by
  obtain ⟨⟨F1, F2, F3, F4, F5⟩, hl⟩ := id V
  rw [mem_dots]
  constructor
  · rintro ⟨i, hi, hd, he⟩
    injection he with hx hy
    have b0 := Int.emod_nonneg (i : Int) (show w ≠ 0 by omega)
    have b1 := Int.emod_lt_of_pos (i : Int) (show 0 < w by omega)
    have b2 : 0 ≤ (i : Int) / w := Int.ediv_nonneg (by omega) (by omega)
    have b3 : (i : Int) / w < h := div_lt (by omega) (by omega)
    rw [hx, hy, pix_in b0 b1 b2 b3, mod_div (by omega), Int.toNat_natCast]
    exact hd
  · intro hp
    by_cases hin : 0 ≤ x ∧ x < w ∧ 0 ≤ y ∧ y < h
    · obtain ⟨h1, h2, h3, h4⟩ := hin
      obtain ⟨_, _, _, e4, e5, _⟩ := V.spot h1 h2 h3 h4
      rw [pix_in h1 h2 h3 h4] at hp
      refine ⟨(y * w + x).toNat, by omega, hp, ?_⟩
      rw [Int.toNat_of_nonneg e4, row_mod h1 h2, row_div h1 h2]
    · rw [pix_out hin] at hp
      cases hp

/-- The box of the points seen. -/
def Boxed (w h : Int) (ps : List (Int × Int)) (s : Int × Int × Int × Int) : Prop :=
  (ps = [] ∧ s = (w, h, -1, -1)) ∨ ((∀ p ∈ ps, s.1 ≤ p.1 ∧ p.1 ≤ s.2.2.1 ∧ s.2.1 ≤ p.2 ∧ p.2 ≤ s.2.2.2) ∧ (∃ p ∈ ps, p.1 = s.1) ∧ (∃ p ∈ ps, p.1 = s.2.2.1) ∧ (∃ p ∈ ps, p.2 = s.2.1) ∧ ∃ p ∈ ps, p.2 = s.2.2.2)
theorem boxed_step {w h : Int} {ps : List (Int × Int)} {s : Int × Int × Int × Int} (B : Boxed w h ps s) {p : Int × Int} (hp : 0 ≤ p.1 ∧ p.1 < w ∧ 0 ≤ p.2 ∧ p.2 < h) : Boxed w h (ps ++ [p]) (bstep s p) := by
  right
  rcases B with ⟨rfl, rfl⟩ | ⟨h1, h2, h3, h4, h5⟩
  · simp only [bstep, mn, mx, List.nil_append, List.mem_singleton]
    rw [if_pos hp.2.1, if_pos hp.2.2.2, if_pos (show (-1 : Int) < p.1 by omega), if_pos (show (-1 : Int) < p.2 by omega)]
    exact ⟨fun q hq => by rw [hq]; omega, ⟨p, rfl, rfl⟩, ⟨p, rfl, rfl⟩, ⟨p, rfl, rfl⟩, ⟨p, rfl, rfl⟩⟩
  · have old : ∀ {f : Int × Int → Int} {a : Int}, (∃ q ∈ ps, f q = a) → ∃ q ∈ ps ++ [p], f q = a := fun ⟨q, hq, e⟩ => ⟨q, List.mem_append.2 (.inl hq), e⟩
    have new : ∀ {f : Int × Int → Int} {a : Int}, f p = a → ∃ q ∈ ps ++ [p], f q = a := fun e => ⟨p, List.mem_append.2 (.inr (List.mem_singleton.2 rfl)), e⟩
    simp only [bstep, mn, mx]
    refine ⟨fun q hq => ?_, ?_, ?_, ?_, ?_⟩
    · rcases List.mem_append.1 hq with hq | hq
      · have := h1 q hq
        refine ⟨?_, ?_, ?_, ?_⟩ <;> split <;> omega
      · rw [List.mem_singleton.1 hq]
        refine ⟨?_, ?_, ?_, ?_⟩ <;> split <;> omega
    · split
      · exact new (f := fun q => q.1) rfl
      · exact old (f := fun q => q.1) h2
    · split
      · exact new (f := fun q => q.1) rfl
      · exact old (f := fun q => q.1) h3
    · split
      · exact new (f := fun q => q.2) rfl
      · exact old (f := fun q => q.2) h4
    · split
      · exact new (f := fun q => q.2) rfl
      · exact old (f := fun q => q.2) h5
theorem boxed_fold {w h : Int} (qs : List (Int × Int)) : ∀ (ps : List (Int × Int)) (s : Int × Int × Int × Int), Boxed w h ps s → (∀ p ∈ qs, 0 ≤ p.1 ∧ p.1 < w ∧ 0 ≤ p.2 ∧ p.2 < h) → Boxed w h (ps ++ qs) (qs.foldl bstep s) := by
  induction qs with
  | nil => intro ps s B _; simpa using B
  | cons q qs ih =>
    intro ps s B hq
    have := ih (ps ++ [q]) (bstep s q) (boxed_step B (hq q (List.mem_cons_self ..))) (fun p hp => hq p (List.mem_cons_of_mem _ hp))
    simpa using this
theorem boxed_dots {w h : Int} {l : List Bool} (V : Valid w h l.length) : Boxed w h (dots w l l.length) ((dots w l l.length).foldl bstep (w, h, -1, -1)) := by
  have := boxed_fold (w := w) (h := h) (dots w l l.length) [] (w, h, -1, -1) (.inl ⟨rfl, rfl⟩) (fun p hp => by
    obtain ⟨x, y⟩ := p
    have := (mem_dots_pix V).1 hp
    by_cases hin : 0 ≤ x ∧ x < w ∧ 0 ≤ y ∧ y < h
    · exact hin
    · rw [pix_out hin] at this
      cases this)
  simpa using this
/-- The dark pixels come row by row. -/
theorem dots_sorted {w : Int} (hw : 0 < w) (l : List Bool) : ∀ n : Nat, (dots w l n).Pairwise (fun p q => p.2 ≤ q.2)
  | 0 => List.Pairwise.nil
  | n + 1 => by
    have ih := dots_sorted hw l n
    unfold dots
    rw [List.pairwise_append]
    refine ⟨ih, ?_, ?_⟩
    · split
      · exact List.pairwise_singleton _ _
      · exact List.Pairwise.nil
    · intro p hp q hq
      obtain ⟨i, hi, _, rfl⟩ := mem_dots.1 hp
      split at hq
      · rw [List.mem_singleton.1 hq]
        exact Int.ediv_le_ediv hw (by omega)
      · cases hq
def mk (p : Int × Int) : S43 := ⟨p.1, p.2⟩
theorem mk_back (ps : List (Int × Int)) : (ps.map mk).map (fun p => (p.f0, p.f1)) = ps := by
  rw [List.map_map]
  exact List.map_id' ps
theorem rd_mk {ps : List (Int × Int)} {i : Nat} (hi : i < ps.length) : rd_T43 (ps.map mk) (i : Int) = mk (ps[i]) := by
  unfold rd_T43
  rw [Int.toNat_natCast, List.getD_eq_getElem?_getD, List.getElem?_map, List.getElem?_eq_getElem hi]
  rfl
theorem dots_ev {w h : Int} {l : List Bool} (V : Valid w h l.length) : Ev (fun k => barscanref31_Dots.f k w h l) ((dots w l l.length).map mk) := by
  obtain ⟨⟨F1, F2, F3, F4, F5⟩, hl⟩ := id V
  unfold barscanref31_Dots.f
  rw [valid_eq, decide_eq_true V]
  simp only [Option.bind_some, if_true]
  refine ev_loop (fun k i acc => barscanref31_Dots.l0 k acc i w h l) 0 l.length (by omega) (fun i acc => acc = (dots w l i.toNat).map mk) _ ?_ ?_ [] rfl
  · intro i acc hi hil hI K
    have hn := dots_length w l i.toNat
    have hal : acc.length ≤ 4194304 := by rw [hI, List.length_map]; omega
    have et : (i + 1).toNat = i.toNat + 1 := by omega
    have ei : ((i.toNat : Nat) : Int) = i := by omega
    have e1 : Int.tmod i w = i % w := Int.tmod_eq_emod_of_nonneg hi
    have e2 : Int.tdiv i w = i / w := Int.tdiv_eq_ediv_of_nonneg hi
    have e3 : wrap64 (i / w) = i / w := w64 (by
      have := Int.ediv_nonneg hi (show 0 ≤ w by omega)
      have := Int.ediv_le_self w hi
      omega)
    by_cases hd : l.getD i.toNat false = true
    · refine Ev.step (f := fun k => barscanref31_Dots.l0 k (acc ++ [mk (i % w, i / w)]) (i + 1) w h l) (fun k => ?_) (K _ ?_)
      · simp only [barscanref31_Dots.l0]
        rw [if_pos hil, if_pos hi, if_pos (show rdOf false l i = true from hd), if_neg (by omega), if_pos (by omega), w64 (n := i + 1) (by omega), e1, e2, e3]
        rfl
      · rw [et, hI]
        simp only [dots, if_pos hd, List.map_append, List.map_cons, List.map_nil, ei]
    · refine Ev.step (f := fun k => barscanref31_Dots.l0 k acc (i + 1) w h l) (fun k => ?_) (K _ ?_)
      · simp only [barscanref31_Dots.l0]
        rw [if_pos hil, if_pos hi, if_neg (show ¬ rdOf false l i = true from hd), w64 (n := i + 1) (by omega)]
      · rw [et, hI]
        simp only [dots, if_neg hd, List.append_nil]
  · intro acc hI
    refine ev_end (fun k => ?_)
    simp only [barscanref31_Dots.l0]
    rw [if_neg (by omega), hI]
    rfl
theorem dots_bad {w h : Int} {l : List Bool} (B : ¬ Valid w h l.length) : Ev (fun k => barscanref31_Dots.f k w h l) [] := by
  unfold barscanref31_Dots.f
  rw [valid_eq, decide_eq_false B]
  exact Ev.now _
/-- The reference's box, told by what holds of it. -/
theorem refBounds_ev {w h : Int} {l : List Bool} (V : Valid w h l.length) : Ev (fun k => barscanref31_Bounds.f k w h l) (bout ((dots w l l.length).foldl bstep (w, h, -1, -1))) := by
  have hw : 0 < w := by have := V.1.1; omega
  have hB := boxed_dots V
  have hS := dots_sorted hw l l.length
  have hN := dots_length w l l.length
  have hl := V.2
  have h5 := V.1.2.2.2.2
  unfold barscanref31_Bounds.f
  refine Ev.bind (dots_ev V) ?_
  have hin : ∀ p ∈ dots w l l.length, 0 ≤ p.1 ∧ p.1 < w ∧ 0 ≤ p.2 ∧ p.2 < h := fun p hp => by
    obtain ⟨x, y⟩ := p
    have := (mem_dots_pix V).1 hp
    by_cases hin : 0 ≤ x ∧ x < w ∧ 0 ≤ y ∧ y < h
    · exact hin
    · rw [pix_out hin] at this
      cases this
  generalize dots w l l.length = ps at hB hS hN hin ⊢
  generalize ps.foldl bstep (w, h, -1, -1) = s at hB ⊢
  rcases hB with ⟨rfl, rfl⟩ | ⟨b1, b2, b3, b4, b5⟩
  · exact Ev.now _
  · have hpos : 0 < ps.length := by
      obtain ⟨q, hq, _⟩ := b2
      exact List.length_pos_of_mem hq
    simp only [List.length_map]
    rw [show ((fun k => if (ps.length : Int) = 0 then some (0, 0, 0, 0, false) else if 0 < (ps.length : Int) then barscanref31_Bounds.l0 k (ps.map mk) ((rd_T43 (ps.map mk) 0).f0) ((rd_T43 (ps.map mk) 0).f0) 0 else none) : Nat → Option (Int × Int × Int × Int × Bool)) = (fun k => barscanref31_Bounds.l0 k (ps.map mk) ((rd_T43 (ps.map mk) 0).f0) ((rd_T43 (ps.map mk) 0).f0) 0) from by
      funext k
      rw [if_neg (by omega), if_pos (by omega)]]
    have r0 : rd_T43 (ps.map mk) 0 = mk (ps[0]) := rd_mk hpos
    rw [r0]
    refine ev_loop (fun k i (z : Int × Int) => barscanref31_Bounds.l0 k (ps.map mk) z.1 z.2 i) 0 ps.length (by omega)
      (fun i z => (∀ j (hj : j < ps.length), (j : Int) < i → z.1 ≤ ps[j].1 ∧ ps[j].1 ≤ z.2) ∧ (∃ q ∈ ps, q.1 = z.1) ∧ (∃ q ∈ ps, q.1 = z.2)) _ ?_ ?_ ((ps[0]).1, (ps[0]).1) ⟨fun j hj hji => by omega, ⟨ps[0], List.getElem_mem hpos, rfl⟩, ⟨ps[0], List.getElem_mem hpos, rfl⟩⟩
    · rintro i ⟨z1, z2⟩ hi hil ⟨hI1, hI2, hI3⟩ K
      have hi2 : i.toNat < ps.length := by omega
      have ri : rd_T43 (ps.map mk) i = mk (ps[i.toNat]) := by
        have := rd_mk hi2
        rwa [show ((i.toNat : Nat) : Int) = i by omega] at this
      refine Ev.step (f := fun k => barscanref31_Bounds.l0 k (ps.map mk) (mn z1 (ps[i.toNat]).1) (mx z2 (ps[i.toNat]).1) (i + 1)) (fun k => ?_) (K (mn z1 (ps[i.toNat]).1, mx z2 (ps[i.toNat]).1) ?_)
      · simp only [barscanref31_Bounds.l0, List.length_map]
        rw [if_pos hil, if_pos hi, ri, w64 (by omega)]
        rfl
      · unfold mn mx
        refine ⟨fun j hj hji => ?_, ?_, ?_⟩
        · by_cases hjj : (j : Int) < i
          · have := hI1 j hj hjj
            simp only
            constructor <;> split <;> omega
          · have : j = i.toNat := by omega
            subst this
            simp only
            constructor <;> split <;> omega
        · simp only
          split
          · exact ⟨_, List.getElem_mem hi2, rfl⟩
          · exact hI2
        · simp only
          split
          · exact ⟨_, List.getElem_mem hi2, rfl⟩
          · exact hI3
    · rintro ⟨z1, z2⟩ ⟨hI1, hI2, hI3⟩
      have hall : ∀ q ∈ ps, z1 ≤ q.1 ∧ q.1 ≤ z2 := by
        intro q hq
        obtain ⟨j, hj, rfl⟩ := List.mem_iff_getElem.1 hq
        exact hI1 j hj (by omega)
      have hY : ∀ q ∈ ps, (ps[0]).2 ≤ q.2 ∧ q.2 ≤ (ps[ps.length - 1]'(by omega)).2 := by
        intro q hq
        obtain ⟨j, hj, rfl⟩ := List.mem_iff_getElem.1 hq
        have hP := List.pairwise_iff_getElem.1 hS
        constructor
        · by_cases h0 : j = 0
          · subst h0; exact Int.le_refl _
          · exact hP 0 j hpos hj (by omega)
        · by_cases h0 : j = ps.length - 1
          · subst h0; exact Int.le_refl _
          · exact hP j (ps.length - 1) hj (by omega) (by omega)
      have m0 : ps[0] ∈ ps := List.getElem_mem hpos
      have mL : (ps[ps.length - 1]'(by omega)) ∈ ps := List.getElem_mem (by omega)
      have e1 : z1 = s.1 := by
        obtain ⟨q, hq, hq1⟩ := hI2
        obtain ⟨p, hp, hp1⟩ := b2
        have := (b1 q hq).1
        have := (hall p hp).1
        omega
      have e2 : z2 = s.2.2.1 := by
        obtain ⟨q, hq, hq1⟩ := hI3
        obtain ⟨p, hp, hp1⟩ := b3
        have := (b1 q hq).2.1
        have := (hall p hp).2
        omega
      have e3 : (ps[0]).2 = s.2.1 := by
        obtain ⟨p, hp, hp1⟩ := b4
        have := (b1 _ m0).2.2.1
        have := (hY p hp).1
        omega
      have e4 : (ps[ps.length - 1]'(by omega)).2 = s.2.2.2 := by
        obtain ⟨p, hp, hp1⟩ := b5
        have := (b1 _ mL).2.2.2
        have := (hY p hp).2
        omega
      have hneg : ¬ s.2.2.1 < 0 := by
        obtain ⟨p, hp, hp1⟩ := b3
        have := (hin p hp).1
        omega
      have rL : rd_T43 (ps.map mk) ((ps.length : Int) - 1) = mk (ps[ps.length - 1]'(by omega)) := by
        have := rd_mk (ps := ps) (i := ps.length - 1) (by omega)
        rwa [show (((ps.length - 1 : Nat)) : Int) = (ps.length : Int) - 1 by omega] at this
      refine ev_end (fun k => ?_)
      simp only [barscanref31_Bounds.l0, List.length_map]
      rw [if_neg (by omega), if_pos (by omega), w64 (n := (ps.length : Int) - 1) (by omega), if_pos (by omega), if_pos (by omega), r0, rL]
      unfold bout
      rw [if_neg hneg]
      simp only [mk, e1, e2, e3, e4]
theorem RasterBounds : barscanlaw31_RasterBounds.Pure := by
  intro w h l most _ _ _ wm
  have hm := wf_u16 wm
  refine Ev.rounds (g := fun k => barscanlaw31_RasterBounds.f k w h l most) ?_
  unfold barscanlaw31_RasterBounds.f
  by_cases h1 : (l.length : Int) > 40000
  · simp only [if_pos h1]
    exact examples_ok
  simp only [if_neg h1]
  unfold barscanlaw31_RasterBounds.core raster_Bounds.f
  simp only [if_pos (show l.length ≤ 140737488351232 by omega), check_eq, Option.bind_some]
  by_cases V : Valid w h l.length
  · simp only [if_pos V, if_true, beq_self_eq_true]
    refine Ev.bind (refBounds_ev V) ?_
    refine Ev.bind (dots_ev V) ?_
    simp only [if_true, mk_back, if_pos hm]
    exact examples_ok
  · simp only [if_neg V]
    have e : Ev (fun k => barscanref31_Bounds.f k w h l) (0, 0, 0, 0, false) := by
      unfold barscanref31_Bounds.f
      exact Ev.bind (dots_bad V) (Ev.now _)
    refine Ev.bind e ?_
    refine Ev.bind (dots_bad V) ?_
    simp only [if_pos hm]
    exact examples_ok
end Go.Proofs.Ytcmcmoaikabfoaa.Pure
