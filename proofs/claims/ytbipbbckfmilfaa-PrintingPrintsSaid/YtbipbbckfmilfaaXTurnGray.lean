/-
Turning and graying of tables, on both sides, and that they may change places. Conditions: as each theorem says.
-/
import Derived.Test.YtbipbbckfmilfaaXBase
import Derived.Test.YtbipbbckfmilfaaPRx1
import Derived.Test.YtbipbbckfmilfaaPRx2
import Derived.Test.YtbipbbckfmilfaaPRx9
import Derived.Test.YtbipbbckfmilfaaPRx12
import Derived.Test.YtbipbbckfmilfaaPRx13
import Derived.Laws.BitsLemmas
namespace Go.Proofs.Ytbipbbckfmilfaa.Pure
set_option linter.unusedVariables false
set_option linter.unusedSimpArgs false
open Go.RowKit Go.Proofs.Ytbipbbckfmilfaa.PR Go.Proofs.YtbipbbckfmilfaaW.PrintWords Go.Proofs.YtbipbbckfmilfaaW.PrintLast Go.Proofs.YtbipbbckfmilfaaW.PrintMore Go.Proofs.Ytbipbbckfmilfaa.XWords Go.Proofs.Ytbipbbckfmilfaa.XPure
theorem and3 (a : Int) : Go.bits .and .i64 a 3 = a % 4 := by
  have h : (BitVec.ofInt 64 a &&& BitVec.ofInt 64 3).toNat = (a % 18446744073709551616).toNat % 4 := by
    rw [BitVec.toNat_and, BitVec.toNat_ofInt, BitVec.toNat_ofInt]
    exact Nat.and_two_pow_sub_one_eq_mod _ 2
  show IntKind.i64.wrap ((BitVec.ofInt 64 a &&& BitVec.ofInt 64 3).toNat : Int) = a % 4
  rw [h, Go.IntKind.wrap_i64]
  omega
theorem Fits.turn {w h : Int} (F : Fits w h) : Fits h w := ⟨F.2.2.1, F.2.2.2.1, F.1, F.2.1, by rw [Int.mul_comm]; exact F.2.2.2.2⟩

/-- The table's row of pixels. -/
def tab {α : Type} (x : (Int × Int × (Int → Int → α))) : List α := upto x.1 x.2.2 (x.1 * x.2.1).toNat
/-- A quarter turn. -/
def rot {α : Type} (x : (Int × Int × (Int → Int → α))) : (Int × Int × (Int → Int → α)) := (x.2.1, x.1, fun u v => x.2.2 v (x.2.1 - 1 - u))
def rotN {α : Type} : Nat → (Int × Int × (Int → Int → α)) → (Int × Int × (Int → Int → α))
  | 0, x => x
  | n + 1, x => rotN n (rot x)
theorem rotN_add {α : Type} (a b : Nat) (x : (Int × Int × (Int → Int → α))) : rotN b (rotN a x) = rotN (a + b) x := by
  induction a generalizing x with
  | zero => rw [Nat.zero_add]; rfl
  | succ a ih =>
    have e : a + 1 + b = a + b + 1 := by omega
    rw [e]
    exact ih (rot x)
theorem rotN_succ {α : Type} (n : Nat) (x : (Int × Int × (Int → Int → α))) : rotN (n + 1) x = rot (rotN n x) := (rotN_add n 1 x).symm
theorem rotN_fits {α : Type} (n : Nat) (x : (Int × Int × (Int → Int → α))) (F : Fits x.1 x.2.1) : Fits (rotN n x).1 (rotN n x).2.1 := by
  induction n generalizing x with
  | zero => exact F
  | succ n ih => exact ih (rot x) F.turn
theorem tab_length {α : Type} {x : (Int × Int × (Int → Int → α))} (F : Fits x.1 x.2.1) : ((tab x).length : Int) = x.1 * x.2.1 := by
  have := F.pos
  unfold tab
  rw [upto_length]
  omega
theorem tab_valid {α : Type} {x : (Int × Int × (Int → Int → α))} (F : Fits x.1 x.2.1) : Valid x.1 x.2.1 (tab x).length := ⟨F, tab_length F⟩
theorem tab_get {α : Type} {x : (Int × Int × (Int → Int → α))} {u v : Int} (d : α) (F : Fits x.1 x.2.1) (h0 : 0 ≤ u) (h1 : u < x.1) (h2 : 0 ≤ v) (h3 : v < x.2.1) : (tab x).getD (v * x.1 + u).toNat d = x.2.2 u v := by
  have hl := row_lt (w := x.1) (h := x.2.1) h1 h0 h3 h2
  unfold tab
  exact upto_getD h0 h1 h2 (by omega)
/-- Each valid table is one of a function. -/
theorem tab_of {α : Type} (d : α) {w h : Int} {l : List α} (V : Valid w h l.length) : l = tab (w, h, fun u v => l.getD (v * w + u).toNat d) :=
  upto_of (d := d) (by have := V.1.1; omega) V.2 (fun u v _ _ _ _ => rfl)
theorem tab_small {α : Type} {x : (Int × Int × (Int → Int → α))} (F : Fits x.1 x.2.1) : (tab x).length ≤ 4194304 := by
  have := tab_length F
  have := F.2.2.2.2
  omega

theorem turned_i_ok {x : (Int × Int × (Int → Int → Int))} (F : Fits x.1 x.2.1) : Ev (fun k => raster_turned_uint8.f k (tab x) x.1 x.2.1) (tab (rot x)) := by
  obtain ⟨G1, G2, G3, G4, G5⟩ := id F
  have hl := tab_length F
  unfold raster_turned_uint8.f
  simp only [if_pos (show (0 : Int) ≤ ((tab x).length : Int) by omega), if_pos (show (((tab x).length : Int)).toNat ≤ 281474976710656 by omega)]
  refine ev_table x.2.1 x.1 (by omega) (by omega) (fun u v => x.2.2 v (x.2.1 - 1 - u)) (fun k v acc => raster_turned_uint8.l0 k (tab x) x.1 x.2.1 acc x.1 v) (fun k v u acc => raster_turned_uint8.l1 k (tab x) x.1 x.2.1 acc v x.1 v x.2.1 u) (fun acc => acc) ?_ ?_ ?_ ?_
  · intro k v acc hv0 hv
    simp only [raster_turned_uint8.l0]
    rw [if_pos hv]
  · intro k v u acc hv0 hv hu0 hu hacc
    have hp0 := row_nonneg (w := x.1) (u := v) (v := x.2.1 - 1 - u) (by omega) hv0 (by omega)
    have hp1 := row_lt (w := x.1) (h := x.2.1) (u := v) (v := x.2.1 - 1 - u) hv hv0 (by omega) (by omega)
    have hm : 0 ≤ (x.2.1 - 1 - u) * x.1 := Int.mul_nonneg (by omega) (by omega)
    have hc0 := row_lt (w := x.2.1) (h := x.1) (u := u) (v := v) hu hu0 hv hv0
    rw [Int.mul_comm x.2.1 x.1] at hc0
    have hg : rd (tab x) ((x.2.1 - 1 - u) * x.1 + v) = x.2.2 v (x.2.1 - 1 - u) := tab_get 0 F hv0 hv (by omega) (by omega)
    simp only [raster_turned_uint8.l1]
    rw [if_pos hu, w64 (n := x.2.1 - 1) (by omega), w64 (n := x.2.1 - 1 - u) (by omega), w64 (n := (x.2.1 - 1 - u) * x.1) (by omega), w64 (n := (x.2.1 - 1 - u) * x.1 + v) (by omega), if_pos hp0, if_pos (by omega), if_pos (by omega), hg, w64 (n := u + 1) (by omega)]
  · intro k v acc hv0 hv
    simp only [raster_turned_uint8.l1]
    rw [if_neg (by omega), w64 (n := v + 1) (by omega)]
  · intro k acc
    simp only [raster_turned_uint8.l0]
    rw [if_neg (by omega)]
theorem turnLoop_i_ok {x : (Int × Int × (Int → Int → Int))} (F : Fits x.1 x.2.1) {n : Int} (h0 : 0 ≤ n) (h1 : n ≤ 4) :
    Ev (fun k => raster_TurnImage.l0 k n 0 x.1 x.2.1 (tab x)) ((rotN n.toNat x).1, (rotN n.toNat x).2.1, tab (rotN n.toNat x), 0) := by
  refine ev_loop (fun k i (s : Int × Int × List Int) => raster_TurnImage.l0 k n i s.1 s.2.1 s.2.2) 0 n h0 (fun i s => s = ((rotN i.toNat x).1, (rotN i.toNat x).2.1, tab (rotN i.toNat x))) _ ?_ ?_ (x.1, x.2.1, tab x) rfl
  · rintro i s hi0 hi hI K
    subst hI
    have F2 := rotN_fits i.toNat x F
    refine Ev.step (f := fun k => (raster_turned_uint8.f k (tab (rotN i.toNat x)) (rotN i.toNat x).1 (rotN i.toNat x).2.1).bind fun t => raster_TurnImage.l0 k n (i + 1) (rotN i.toNat x).2.1 (rotN i.toNat x).1 t) (fun k => ?_) (Ev.bind (turned_i_ok F2) (K ((rotN i.toNat x).2.1, (rotN i.toNat x).1, tab (rot (rotN i.toNat x))) ?_))
    · simp only [raster_TurnImage.l0]
      rw [if_pos hi, w64 (n := i + 1) (by omega)]
    · have e : (i + 1).toNat = i.toNat + 1 := by omega
      rw [e, rotN_succ]
      rfl
  · rintro s hI
    subst hI
    refine ev_end (fun k => ?_)
    simp only [raster_TurnImage.l0]
    rw [if_neg (by omega)]

theorem turnImage_ok {x : (Int × Int × (Int → Int → Int))} (F : Fits x.1 x.2.1) (a : Int) :
    Ev (fun k => raster_TurnImage.f k x.1 x.2.1 (tab x) a) ((rotN (a % 4).toNat x).1, (rotN (a % 4).toNat x).2.1, tab (rotN (a % 4).toNat x), 0) := by
  unfold raster_TurnImage.f
  rw [checkImage_eq, if_pos (tab_valid F), and3]
  unfold slices_Clone_uint8_uint8.f
  rw [if_pos (by have := tab_small F; omega)]
  simp only [Option.bind_some, if_true]
  exact turnLoop_i_ok F (by omega) (by omega)
theorem quarters_eq (a : Int) : barscanref31_quarters.f a = some (a % 4) := by
  unfold barscanref31_quarters.f
  have h : -4 < Int.tmod a 4 ∧ Int.tmod a 4 < 4 := ⟨Int.lt_tmod_of_pos a (by omega), Int.tmod_lt_of_pos a (by omega)⟩
  have h2 : Int.tmod a 4 = a - 4 * Int.tdiv a 4 := Int.tmod_def a 4
  rw [w64 (by omega), Int.tmod_eq_emod_of_nonneg (by omega)]
  congr 1
  omega
theorem refTurned_eq {w h : Int} (F : Fits w h) {i : Int} (hi0 : 0 ≤ i) (hi : i < w * h) : barscanref31_turned.f w h i = some ((h - 1 - i % h) * w + i / h) ∧ 0 ≤ i % h ∧ i % h < h ∧ 0 ≤ i / h ∧ i / h < w := by
  obtain ⟨G1, G2, G3, G4, G5⟩ := id F
  have m0 := Int.emod_nonneg i (show h ≠ 0 by omega)
  have m1 := Int.emod_lt_of_pos i (show 0 < h by omega)
  have m2 : 0 ≤ i / h := Int.ediv_nonneg hi0 (by omega)
  have m3 : i / h < w := div_lt (by omega) (by rw [Int.mul_comm]; exact hi)
  have hp0 := row_nonneg (w := w) (u := i / h) (v := h - 1 - i % h) (by omega) m2 (by omega)
  have hp1 := row_lt (w := w) (h := h) (u := i / h) (v := h - 1 - i % h) m3 m2 (by omega) (by omega)
  have hm : 0 ≤ (h - 1 - i % h) * w := Int.mul_nonneg (by omega) (by omega)
  unfold barscanref31_turned.f
  rw [if_neg (by omega), Int.tmod_eq_emod_of_nonneg hi0, Int.tdiv_eq_ediv_of_nonneg hi0, w64 (n := h - 1) (by omega), w64 (n := h - 1 - i % h) (by omega), w64 (n := (h - 1 - i % h) * w) (by omega), w64 (n := i / h) (by omega), w64 (by omega)]
  exact ⟨rfl, m0, m1, m2, m3⟩

theorem refTurn_b_ok {x : (Int × Int × (Int → Int → Bool))} (F : Fits x.1 x.2.1) (a : Int) :
    Ev (fun k => barscanref31_Turn.f k x.1 x.2.1 (tab x) a) ((rotN (a % 4).toNat x).1, (rotN (a % 4).toNat x).2.1, tab (rotN (a % 4).toNat x), 0) := by
  have hl := tab_length F
  have hs := tab_small F
  unfold barscanref31_Turn.f
  rw [valid_eq, decide_eq_true (tab_valid F)]
  simp only [Option.bind_some, if_true, List.length_nil, List.nil_append, if_pos (show 0 + (tab x).length < 140737488355328 by omega)]
  refine ev_loop (fun k i (s : Int × Int × List Bool) => barscanref31_Turn.l0 k a i x.1 x.2.1 (tab x) s.1 s.2.1 s.2.2) 0 (a % 4) (by omega) (fun i s => s = ((rotN i.toNat x).1, (rotN i.toNat x).2.1, tab (rotN i.toNat x))) _ ?_ ?_ (x.1, x.2.1, tab x) rfl
  · rintro i s hi0 hi hI K
    subst hI
    have F2 := rotN_fits i.toNat x F
    have hsz : (rotN i.toNat x).1 * (rotN i.toNat x).2.1 = x.1 * x.2.1 := by
      generalize i.toNat = n
      clear K F2 hi0 hi hl hs
      induction n generalizing x with
      | zero => rfl
      | succ n ih => rw [show rotN (n + 1) x = rotN n (rot x) from rfl, ih (x := rot x) F.turn]; exact Int.mul_comm _ _
    have key : ∀ s', s' = ((rotN (i + 1).toNat x).1, (rotN (i + 1).toNat x).2.1, tab (rotN (i + 1).toNat x)) → Ev (fun k => barscanref31_Turn.l0 k a (i + 1) x.1 x.2.1 (tab x) s'.1 s'.2.1 s'.2.2) _ := K
    have e : (i + 1).toNat = i.toNat + 1 := by omega
    rw [e, rotN_succ] at key
    generalize rotN i.toNat x = y at F2 hsz key ⊢
    obtain ⟨w, h, g⟩ := y
    simp only at F2 hsz key ⊢
    obtain ⟨G1, G2, G3, G4, G5⟩ := id F2
    have hl2 := tab_length (x := (w, h, g)) F2
    simp only at hl2
    refine Ev.step (f := fun k => barscanref31_Turn.l1 k a i 0 x.1 x.2.1 (tab x) w h (tab (w, h, g)) h w []) (fun k => ?_) ?_
    · simp only [barscanref31_Turn.l0]
      rw [quarters_eq, Option.bind_some, if_pos hi]
    refine ev_loop (fun k j acc => barscanref31_Turn.l1 k a i j x.1 x.2.1 (tab x) w h (tab (w, h, g)) h w acc) 0 (tab x).length (by omega) (fun j acc => acc = upto h (fun u v => g v (h - 1 - u)) j.toNat) _ ?_ ?_ _ (by simp [upto_zero])
    · intro j acc hj0 hj hJ K2
      obtain ⟨t1, t2, t3, t4, t5⟩ := refTurned_eq F2 (i := j) hj0 (by omega)
      have hp0 := row_nonneg (w := w) (u := j / h) (v := h - 1 - j % h) (by omega) t4 (by omega)
      have hp1 := row_lt (w := w) (h := h) (u := j / h) (v := h - 1 - j % h) t5 t4 (by omega) (by omega)
      have hg : rdOf false (tab (w, h, g)) ((h - 1 - j % h) * w + j / h) = g (j / h) (h - 1 - j % h) := tab_get false F2 t4 t5 (show 0 ≤ h - 1 - j % h by omega) (show h - 1 - j % h < h by omega)
      have hacc : acc.length = j.toNat := by rw [hJ, upto_length]
      refine Ev.step (f := fun k => barscanref31_Turn.l1 k a i (j + 1) x.1 x.2.1 (tab x) w h (tab (w, h, g)) h w (acc ++ [g (j / h) (h - 1 - j % h)])) (fun k => ?_) (K2 _ ?_)
      · simp only [barscanref31_Turn.l1]
        rw [if_pos hj, t1, Option.bind_some, if_pos hp0, if_pos (by omega), if_pos (by omega), hg, w64 (n := j + 1) (by omega)]
      · have e3 : (j + 1).toNat = j.toNat + 1 := by omega
        rw [e3, upto_push (u := j % h) (v := j / h) t2 t3 (by rw [mod_div (by omega)]; omega), hJ]
    · intro acc hJ
      refine Ev.step (f := fun k => barscanref31_Turn.l0 k a (i + 1) x.1 x.2.1 (tab x) h w acc) (fun k => ?_) (key (h, w, acc) ?_)
      · simp only [barscanref31_Turn.l1]
        rw [if_neg (by omega), w64 (n := i + 1) (by omega)]
      · rw [hJ]
        have e4 : (((tab x).length : Nat) : Int).toNat = (h * w).toNat := by rw [Int.mul_comm h w]; omega
        rw [e4]
        rfl
  · rintro s hI
    subst hI
    refine ev_end (fun k => ?_)
    simp only [barscanref31_Turn.l0]
    rw [quarters_eq, Option.bind_some, if_neg (by omega)]
theorem refTurn_b_bad {w h : Int} {l : List Bool} (B : ¬ Valid w h l.length) (a : Int) : ∀ k, barscanref31_Turn.f k w h l a = some (0, 0, [], 1) := by
  intro k
  unfold barscanref31_Turn.f
  rw [valid_eq, decide_eq_false B]
  rfl

/-- A pixel's gray. -/
def grayOf (b : Bool) : Int := if b = true then 0 else 255
theorem getD_set_' {α : Type} (l : List α) (i j : Nat) (x d : α) (hi : i < l.length) : (l.set i x).getD j d = if j = i then x else l.getD j d := by
  simp only [List.getD_eq_getElem?_getD, List.getElem?_set]
  by_cases h : i = j
  · subst h
    rw [if_pos rfl, if_pos hi, if_pos rfl]
    rfl
  · rw [if_neg h, if_neg (fun hh => h hh.symm)]
theorem gray_ok {w h : Int} {l : List Bool} (V : Valid w h l.length) : Ev (fun k => raster_Gray.f k w h l) (w, h, l.map grayOf, 0) := by
  obtain ⟨G1, G2, G3, G4, G5⟩ := id V.1
  have hl := V.2
  unfold raster_Gray.f
  rw [check_eq, if_pos V]
  simp only [Option.bind_some, if_true, if_pos (show (0 : Int) ≤ (l.length : Int) by omega), if_pos (show ((l.length : Int)).toNat ≤ 281474976710656 by omega)]
  refine ev_loop (fun k i out => raster_Gray.l0 k l l.length i w h out) 0 l.length (by omega) (fun i out => out.length = l.length ∧ (∀ j : Nat, j < l.length → out.getD j 0 = if (j : Int) < i then grayOf (l.getD j false) else 0)) _ ?_ ?_ _ ?_
  · rintro i out hi0 hi ⟨ho, hI⟩ K
    by_cases hb : l.getD i.toNat false = true
    · refine Ev.step (f := fun k => raster_Gray.l0 k l l.length (i + 1) w h out) (fun k => ?_) (K _ ⟨ho, fun j hj => ?_⟩)
      · simp only [raster_Gray.l0]
        rw [if_pos hi, if_pos hi0, if_pos hi, if_pos (show rdOf false l i = true from hb), w64 (n := i + 1) (by omega)]
      · rw [hI j hj]
        by_cases hji : (j : Int) < i
        · rw [if_pos hji, if_pos (by omega)]
        · rw [if_neg hji]
          by_cases he : (j : Int) = i
          · have e : j = i.toNat := by omega
            rw [if_pos (by omega), e, hb]
            rfl
          · rw [if_neg (by omega)]
    · refine Ev.step (f := fun k => raster_Gray.l0 k l l.length (i + 1) w h (out.set i.toNat 255)) (fun k => ?_) (K _ ⟨by rw [List.length_set]; exact ho, fun j hj => ?_⟩)
      · simp only [raster_Gray.l0]
        rw [if_pos hi, if_pos hi0, if_pos hi, if_neg (show ¬ rdOf false l i = true from hb), if_pos (by omega), w64 (n := i + 1) (by omega)]
      · rw [getD_set_' _ _ _ _ _ (by omega), hI j hj]
        by_cases he : j = i.toNat
        · rw [if_pos he, if_pos (by omega), he]
          unfold grayOf
          rw [if_neg hb]
        · rw [if_neg he]
          by_cases hji : (j : Int) < i
          · rw [if_pos hji, if_pos (by omega)]
          · rw [if_neg hji, if_neg (by omega)]
  · rintro out ⟨ho, hI⟩
    refine ev_end (fun k => ?_)
    simp only [raster_Gray.l0]
    rw [if_neg (by omega)]
    have : out = l.map grayOf := by
      apply List.ext_getElem?
      intro j
      by_cases hj : j < l.length
      · have h1 := hI j hj
        rw [if_pos (by omega), List.getD_eq_getElem?_getD, List.getD_eq_getElem?_getD, List.getElem?_eq_getElem (show j < out.length by omega), List.getElem?_eq_getElem hj, Option.getD_some, Option.getD_some] at h1
        rw [List.getElem?_map, List.getElem?_eq_getElem (show j < out.length by omega), List.getElem?_eq_getElem hj, h1, Option.map_some]
      · rw [List.getElem?_eq_none (by omega), List.getElem?_eq_none (by rw [List.length_map]; omega)]
    rw [this]
  · refine ⟨by simp, fun j hj => ?_⟩
    rw [if_neg (by omega), getD_replicate]
theorem gray_bad {w h : Int} {l : List Bool} (B : ¬ Valid w h l.length) : ∀ k, raster_Gray.f k w h l = some (0, 0, [], 1) := by
  intro k
  unfold raster_Gray.f
  rw [check_eq, if_neg B]
  rfl
theorem refGray_ok {w h : Int} {l : List Bool} (V : Valid w h l.length) : Ev (fun k => barscanref31_Gray.f k w h l) (w, h, l.map grayOf, 0) := by
  obtain ⟨G1, G2, G3, G4, G5⟩ := id V.1
  have hl := V.2
  unfold barscanref31_Gray.f
  rw [valid_eq, decide_eq_true V]
  simp only [Option.bind_some, if_true]
  refine ev_loop (fun k i out => barscanref31_Gray.l0 k i w h l w h out) 0 l.length (by omega) (fun i out => out = (l.take i.toNat).map grayOf) _ ?_ ?_ _ (by simp)
  · intro i out hi0 hi hI K
    have hlen : out.length = i.toNat := by rw [hI, List.length_map, List.length_take]; omega
    have e : (i + 1).toNat = i.toNat + 1 := by omega
    have ht : l.take (i + 1).toNat = l.take i.toNat ++ [l.getD i.toNat false] := by
      rw [e, List.take_add_one, List.getElem?_eq_getElem (show i.toNat < l.length by omega), List.getD_eq_getElem?_getD, List.getElem?_eq_getElem (show i.toNat < l.length by omega)]
      rfl
    refine Ev.step (f := fun k => barscanref31_Gray.l0 k (i + 1) w h l w h (out ++ [grayOf (l.getD i.toNat false)])) (fun k => ?_) (K _ ?_)
    · simp only [barscanref31_Gray.l0]
      rw [if_pos hi, if_pos hi0, w64 (n := i + 1) (by omega)]
      by_cases hb : l.getD i.toNat false = true
      · rw [if_pos (show rdOf false l i = true from hb), if_pos (by omega), hb]
        rfl
      · rw [if_neg (show ¬ rdOf false l i = true from hb), if_pos (by omega)]
        unfold grayOf
        rw [if_neg hb]
    · rw [ht, List.map_append, List.map_cons, List.map_nil, hI]
  · intro out hI
    refine ev_end (fun k => ?_)
    simp only [barscanref31_Gray.l0]
    rw [if_neg (by omega), hI]
    have : l.take ((l.length : Nat) : Int).toNat = l := List.take_of_length_le (by omega)
    rw [this]
/-- A table grayed. -/
def gr (x : Int × Int × (Int → Int → Bool)) : Int × Int × (Int → Int → Int) := (x.1, x.2.1, fun u v => grayOf (x.2.2 u v))
theorem tab_gr (x : Int × Int × (Int → Int → Bool)) : tab (gr x) = (tab x).map grayOf := by
  unfold tab gr upto
  rw [List.map_map]
  rfl
theorem rotN_gr : ∀ (n : Nat) (x : Int × Int × (Int → Int → Bool)), rotN n (gr x) = gr (rotN n x)
  | 0, x => rfl
  | n + 1, x => rotN_gr n (rot x)
theorem gray_range (l : List Bool) : ∀ x ∈ l.map grayOf, 0 ≤ x ∧ x ≤ 255 := by
  intro x hx
  obtain ⟨b, _, rfl⟩ := List.mem_map.1 hx
  unfold grayOf
  split <;> omega
end Go.Proofs.Ytbipbbckfmilfaa.Pure
