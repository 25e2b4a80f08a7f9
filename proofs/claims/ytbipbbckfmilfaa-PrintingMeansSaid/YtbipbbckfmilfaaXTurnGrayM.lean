/-
Turning and graying of tables, and that they may change places. Conditions: as each theorem says.
-/
import Derived.Test.YtbipbbckfmilfaaXBase
import Derived.Test.YtbipbbckfmilfaaPRx1
import Derived.Test.YtbipbbckfmilfaaPRx12
import Derived.Test.YtbipbbckfmilfaaPRx2
import Derived.Test.YtbipbbckfmilfaaPRx13
import Derived.Test.YtbipbbckfmilfaaPRx11
import Derived.Test.YtbipbbckfmilfaaPRx10
import Derived.Laws.BitsLemmas
namespace Go.Proofs.Ytbipbbckfmilfaa.Pure
set_option linter.unusedVariables false
set_option linter.unusedSimpArgs false
open Go.RowKit Go.Proofs.Ytbipbbckfmilfaa.PR Go.Proofs.YtbipbbckfmilfaaW.PrintWords Go.Proofs.YtbipbbckfmilfaaW.PrintLast Go.Proofs.YtbipbbckfmilfaaW.PrintMore Go.Proofs.Ytbipbbckfmilfaa.XWords Go.Proofs.Ytbipbbckfmilfaa.XPure
theorem refEqualImage_eq {w h W H : Int} {l m : List Int} (hl : l.length ≤ 4194304) : Ev (fun k => barscanref31_EqualImage.f k w h l W H m) (sameAs w h l W H m) := by
  unfold barscanref31_EqualImage.f sameAs
  by_cases h1 : w = W
  · by_cases h2 : h = H
    · simp only [if_pos h1, if_pos h2, h1, h2, true_and]
      by_cases he : (l.length : Int) = m.length
      · have hb : ((l.length : Int) != (m.length : Int)) = false := by simpa using he
        rw [hb]
        refine Ev.step (f := fun k => barscanref31_EqualImage.l0 k 0 W H l W H m) (fun k => by simp [barscanref31_EqualImage.j0]) ?_
        refine ev_equal 0 l m (by omega) (fun k i => barscanref31_EqualImage.l0 k i W H l W H m) ?_ ?_ ?_
        · intro k i h0 h1 e
          simp only [barscanref31_EqualImage.l0]
          rw [if_pos h1, if_pos h0, if_pos (by omega), if_pos (show rd l i = rd m i from e), w64 (by omega)]
        · intro k i h0 h1 e
          simp only [barscanref31_EqualImage.l0]
          rw [if_pos h1, if_pos h0, if_pos (by omega), if_neg (show ¬ rd l i = rd m i from e)]
        · intro k
          simp only [barscanref31_EqualImage.l0]
          rw [if_neg (by omega)]
      · have hb : ((l.length : Int) != (m.length : Int)) = true := by simpa using he
        rw [hb, decide_eq_false (fun hh => he (by rw [hh]))]
        exact ev_end (fun k => by simp [barscanref31_EqualImage.j0])
    · simp only [if_pos h1, if_neg h2, h2, false_and, and_false, decide_false]
      exact ev_end (fun k => by simp [barscanref31_EqualImage.j0])
  · simp only [if_neg h1, h1, false_and, decide_false]
    exact ev_end (fun k => by simp [barscanref31_EqualImage.j0])
theorem equal43_self {w h : Int} {l : List Int} (hl : l.length ≤ 4194304) : Ev (fun k => barscanlaw43_equal.f k w h l w h l) true := by
  unfold barscanlaw43_equal.f
  have := refEqualImage_eq (w := w) (h := h) (W := w) (H := h) (l := l) (m := l) hl
  rw [sameAs_self] at this
  exact Ev.bind this (Ev.now _)
theorem and3 (a : Int) : Go.bits .and .i64 a 3 = a % 4 := by
  have h : (BitVec.ofInt 64 a &&& BitVec.ofInt 64 3).toNat = (a % 18446744073709551616).toNat % 4 := by
    rw [BitVec.toNat_and, BitVec.toNat_ofInt, BitVec.toNat_ofInt]
    exact Nat.and_two_pow_sub_one_eq_mod _ 2
  show IntKind.i64.wrap ((BitVec.ofInt 64 a &&& BitVec.ofInt 64 3).toNat : Int) = a % 4
  rw [h, Go.IntKind.wrap_i64]
  omega
theorem Fits.turn {w h : Int} (F : Fits w h) : Fits h w := ⟨F.2.2.1, F.2.2.2.1, F.1, F.2.1, by rw [Int.mul_comm]; exact F.2.2.2.2⟩

/-- The table's row of pixels. -/
def tab {α : Type} (x : (Int × Int × (Int → Int → α))) : List α := upto x.1 x.2.2 (x.1 * x.2.1).toNat
/-- A quarter turn. -/
def rot {α : Type} (x : (Int × Int × (Int → Int → α))) : (Int × Int × (Int → Int → α)) := (x.2.1, x.1, fun u v => x.2.2 v (x.2.1 - 1 - u))
def rotN {α : Type} : Nat → (Int × Int × (Int → Int → α)) → (Int × Int × (Int → Int → α))
  | 0, x => x
  | n + 1, x => rotN n (rot x)
theorem rotN_add {α : Type} (a b : Nat) (x : (Int × Int × (Int → Int → α))) : rotN b (rotN a x) = rotN (a + b) x := by
  induction a generalizing x with
  | zero => rw [Nat.zero_add]; rfl
  | succ a ih =>
    have e : a + 1 + b = a + b + 1 := by omega
    rw [e]
    exact ih (rot x)
theorem rotN_succ {α : Type} (n : Nat) (x : (Int × Int × (Int → Int → α))) : rotN (n + 1) x = rot (rotN n x) := (rotN_add n 1 x).symm
theorem rotN_fits {α : Type} (n : Nat) (x : (Int × Int × (Int → Int → α))) (F : Fits x.1 x.2.1) : Fits (rotN n x).1 (rotN n x).2.1 := by
  induction n generalizing x with
  | zero => exact F
  | succ n ih => exact ih (rot x) F.turn
theorem tab_length {α : Type} {x : (Int × Int × (Int → Int → α))} (F : Fits x.1 x.2.1) : ((tab x).length : Int) = x.1 * x.2.1 := by
  have := F.pos
  unfold tab
  rw [upto_length]
  omega
theorem tab_valid {α : Type} {x : (Int × Int × (Int → Int → α))} (F : Fits x.1 x.2.1) : Valid x.1 x.2.1 (tab x).length := ⟨F, tab_length F⟩
theorem tab_get {α : Type} {x : (Int × Int × (Int → Int → α))} {u v : Int} (d : α) (F : Fits x.1 x.2.1) (h0 : 0 ≤ u) (h1 : u < x.1) (h2 : 0 ≤ v) (h3 : v < x.2.1) : (tab x).getD (v * x.1 + u).toNat d = x.2.2 u v := by
  have hl := row_lt (w := x.1) (h := x.2.1) h1 h0 h3 h2
  unfold tab
  exact upto_getD h0 h1 h2 (by omega)
/-- Each valid table is one of a function. -/
theorem tab_of {α : Type} (d : α) {w h : Int} {l : List α} (V : Valid w h l.length) : l = tab (w, h, fun u v => l.getD (v * w + u).toNat d) :=
  upto_of (d := d) (by have := V.1.1; omega) V.2 (fun u v _ _ _ _ => rfl)
theorem tab_small {α : Type} {x : (Int × Int × (Int → Int → α))} (F : Fits x.1 x.2.1) : (tab x).length ≤ 4194304 := by
  have := tab_length F
  have := F.2.2.2.2
  omega

theorem turned_b_ok {x : (Int × Int × (Int → Int → Bool))} (F : Fits x.1 x.2.1) : Ev (fun k => raster_turned_bool.f k (tab x) x.1 x.2.1) (tab (rot x)) := by
  obtain ⟨G1, G2, G3, G4, G5⟩ := id F
  have hl := tab_length F
  unfold raster_turned_bool.f
  simp only [if_pos (show (0 : Int) ≤ ((tab x).length : Int) by omega), if_pos (show (((tab x).length : Int)).toNat ≤ 281474976710656 by omega)]
  refine ev_table x.2.1 x.1 (by omega) (by omega) (fun u v => x.2.2 v (x.2.1 - 1 - u)) (fun k v acc => raster_turned_bool.l0 k (tab x) x.1 x.2.1 acc x.1 v) (fun k v u acc => raster_turned_bool.l1 k (tab x) x.1 x.2.1 acc v x.1 v x.2.1 u) (fun acc => acc) ?_ ?_ ?_ ?_
  · intro k v acc hv0 hv
    simp only [raster_turned_bool.l0]
    rw [if_pos hv]
  · intro k v u acc hv0 hv hu0 hu hacc
    have hp0 := row_nonneg (w := x.1) (u := v) (v := x.2.1 - 1 - u) (by omega) hv0 (by omega)
    have hp1 := row_lt (w := x.1) (h := x.2.1) (u := v) (v := x.2.1 - 1 - u) hv hv0 (by omega) (by omega)
    have hm : 0 ≤ (x.2.1 - 1 - u) * x.1 := Int.mul_nonneg (by omega) (by omega)
    have hc0 := row_lt (w := x.2.1) (h := x.1) (u := u) (v := v) hu hu0 hv hv0
    rw [Int.mul_comm x.2.1 x.1] at hc0
    have hg : rdOf false (tab x) ((x.2.1 - 1 - u) * x.1 + v) = x.2.2 v (x.2.1 - 1 - u) := tab_get false F hv0 hv (by omega) (by omega)
    simp only [raster_turned_bool.l1]
    rw [if_pos hu, w64 (n := x.2.1 - 1) (by omega), w64 (n := x.2.1 - 1 - u) (by omega), w64 (n := (x.2.1 - 1 - u) * x.1) (by omega), w64 (n := (x.2.1 - 1 - u) * x.1 + v) (by omega), if_pos hp0, if_pos (by omega), if_pos (by omega), hg, w64 (n := u + 1) (by omega)]
  · intro k v acc hv0 hv
    simp only [raster_turned_bool.l1]
    rw [if_neg (by omega), w64 (n := v + 1) (by omega)]
  · intro k acc
    simp only [raster_turned_bool.l0]
    rw [if_neg (by omega)]
theorem turnLoop_b_ok {x : (Int × Int × (Int → Int → Bool))} (F : Fits x.1 x.2.1) {n : Int} (h0 : 0 ≤ n) (h1 : n ≤ 4) :
    Ev (fun k => raster_Turn.l0 k n 0 x.1 x.2.1 (tab x)) ((rotN n.toNat x).1, (rotN n.toNat x).2.1, tab (rotN n.toNat x), 0) := by
  refine ev_loop (fun k i (s : Int × Int × List Bool) => raster_Turn.l0 k n i s.1 s.2.1 s.2.2) 0 n h0 (fun i s => s = ((rotN i.toNat x).1, (rotN i.toNat x).2.1, tab (rotN i.toNat x))) _ ?_ ?_ (x.1, x.2.1, tab x) rfl
  · rintro i s hi0 hi hI K
    subst hI
    have F2 := rotN_fits i.toNat x F
    refine Ev.step (f := fun k => (raster_turned_bool.f k (tab (rotN i.toNat x)) (rotN i.toNat x).1 (rotN i.toNat x).2.1).bind fun t => raster_Turn.l0 k n (i + 1) (rotN i.toNat x).2.1 (rotN i.toNat x).1 t) (fun k => ?_) (Ev.bind (turned_b_ok F2) (K ((rotN i.toNat x).2.1, (rotN i.toNat x).1, tab (rot (rotN i.toNat x))) ?_))
    · simp only [raster_Turn.l0]
      rw [if_pos hi, w64 (n := i + 1) (by omega)]
    · have e : (i + 1).toNat = i.toNat + 1 := by omega
      rw [e, rotN_succ]
      rfl
  · rintro s hI
    subst hI
    refine ev_end (fun k => ?_)
    simp only [raster_Turn.l0]
    rw [if_neg (by omega)]

theorem clone_eq {l : List Bool} (hl : l.length ≤ 4194304) (w h : Int) : raster_clone.f w h l = some (w, h, l) := by
  unfold raster_clone.f slices_Clone_bool_bool.f
  rw [if_pos (by omega)]
  rfl
theorem turn_ok {x : (Int × Int × (Int → Int → Bool))} (F : Fits x.1 x.2.1) (a : Int) :
    Ev (fun k => raster_Turn.f k x.1 x.2.1 (tab x) a) ((rotN (a % 4).toNat x).1, (rotN (a % 4).toNat x).2.1, tab (rotN (a % 4).toNat x), 0) := by
  unfold raster_Turn.f
  rw [check_eq, if_pos (tab_valid F), clone_eq (tab_small F), and3]
  simp only [Option.bind_some, if_true]
  exact turnLoop_b_ok F (by omega) (by omega)
theorem turned_i_ok {x : (Int × Int × (Int → Int → Int))} (F : Fits x.1 x.2.1) : Ev (fun k => raster_turned_uint8.f k (tab x) x.1 x.2.1) (tab (rot x)) := by
  obtain ⟨G1, G2, G3, G4, G5⟩ := id F
  have hl := tab_length F
  unfold raster_turned_uint8.f
  simp only [if_pos (show (0 : Int) ≤ ((tab x).length : Int) by omega), if_pos (show (((tab x).length : Int)).toNat ≤ 281474976710656 by omega)]
  refine ev_table x.2.1 x.1 (by omega) (by omega) (fun u v => x.2.2 v (x.2.1 - 1 - u)) (fun k v acc => raster_turned_uint8.l0 k (tab x) x.1 x.2.1 acc x.1 v) (fun k v u acc => raster_turned_uint8.l1 k (tab x) x.1 x.2.1 acc v x.1 v x.2.1 u) (fun acc => acc) ?_ ?_ ?_ ?_
  · intro k v acc hv0 hv
    simp only [raster_turned_uint8.l0]
    rw [if_pos hv]
  · intro k v u acc hv0 hv hu0 hu hacc
    have hp0 := row_nonneg (w := x.1) (u := v) (v := x.2.1 - 1 - u) (by omega) hv0 (by omega)
    have hp1 := row_lt (w := x.1) (h := x.2.1) (u := v) (v := x.2.1 - 1 - u) hv hv0 (by omega) (by omega)
    have hm : 0 ≤ (x.2.1 - 1 - u) * x.1 := Int.mul_nonneg (by omega) (by omega)
    have hc0 := row_lt (w := x.2.1) (h := x.1) (u := u) (v := v) hu hu0 hv hv0
    rw [Int.mul_comm x.2.1 x.1] at hc0
    have hg : rd (tab x) ((x.2.1 - 1 - u) * x.1 + v) = x.2.2 v (x.2.1 - 1 - u) := tab_get 0 F hv0 hv (by omega) (by omega)
    simp only [raster_turned_uint8.l1]
    rw [if_pos hu, w64 (n := x.2.1 - 1) (by omega), w64 (n := x.2.1 - 1 - u) (by omega), w64 (n := (x.2.1 - 1 - u) * x.1) (by omega), w64 (n := (x.2.1 - 1 - u) * x.1 + v) (by omega), if_pos hp0, if_pos (by omega), if_pos (by omega), hg, w64 (n := u + 1) (by omega)]
  · intro k v acc hv0 hv
    simp only [raster_turned_uint8.l1]
    rw [if_neg (by omega), w64 (n := v + 1) (by omega)]
  · intro k acc
    simp only [raster_turned_uint8.l0]
    rw [if_neg (by omega)]
theorem turnLoop_i_ok {x : (Int × Int × (Int → Int → Int))} (F : Fits x.1 x.2.1) {n : Int} (h0 : 0 ≤ n) (h1 : n ≤ 4) :
    Ev (fun k => raster_TurnImage.l0 k n 0 x.1 x.2.1 (tab x)) ((rotN n.toNat x).1, (rotN n.toNat x).2.1, tab (rotN n.toNat x), 0) := by
  refine ev_loop (fun k i (s : Int × Int × List Int) => raster_TurnImage.l0 k n i s.1 s.2.1 s.2.2) 0 n h0 (fun i s => s = ((rotN i.toNat x).1, (rotN i.toNat x).2.1, tab (rotN i.toNat x))) _ ?_ ?_ (x.1, x.2.1, tab x) rfl
  · rintro i s hi0 hi hI K
    subst hI
    have F2 := rotN_fits i.toNat x F
    refine Ev.step (f := fun k => (raster_turned_uint8.f k (tab (rotN i.toNat x)) (rotN i.toNat x).1 (rotN i.toNat x).2.1).bind fun t => raster_TurnImage.l0 k n (i + 1) (rotN i.toNat x).2.1 (rotN i.toNat x).1 t) (fun k => ?_) (Ev.bind (turned_i_ok F2) (K ((rotN i.toNat x).2.1, (rotN i.toNat x).1, tab (rot (rotN i.toNat x))) ?_))
    · simp only [raster_TurnImage.l0]
      rw [if_pos hi, w64 (n := i + 1) (by omega)]
    · have e : (i + 1).toNat = i.toNat + 1 := by omega
      rw [e, rotN_succ]
      rfl
  · rintro s hI
    subst hI
    refine ev_end (fun k => ?_)
    simp only [raster_TurnImage.l0]
    rw [if_neg (by omega)]

theorem turnImage_ok {x : (Int × Int × (Int → Int → Int))} (F : Fits x.1 x.2.1) (a : Int) :
    Ev (fun k => raster_TurnImage.f k x.1 x.2.1 (tab x) a) ((rotN (a % 4).toNat x).1, (rotN (a % 4).toNat x).2.1, tab (rotN (a % 4).toNat x), 0) := by
  unfold raster_TurnImage.f
  rw [checkImage_eq, if_pos (tab_valid F), and3]
  unfold slices_Clone_uint8_uint8.f
  rw [if_pos (by have := tab_small F; omega)]
  simp only [Option.bind_some, if_true]
  exact turnLoop_i_ok F (by omega) (by omega)
/-- A pixel's gray. -/
def grayOf (b : Bool) : Int := if b = true then 0 else 255
theorem getD_set_' {α : Type} (l : List α) (i j : Nat) (x d : α) (hi : i < l.length) : (l.set i x).getD j d = if j = i then x else l.getD j d := by
  simp only [List.getD_eq_getElem?_getD, List.getElem?_set]
  by_cases h : i = j
  · subst h
    rw [if_pos rfl, if_pos hi, if_pos rfl]
    rfl
  · rw [if_neg h, if_neg (fun hh => h hh.symm)]
theorem gray_ok {w h : Int} {l : List Bool} (V : Valid w h l.length) : Ev (fun k => raster_Gray.f k w h l) (w, h, l.map grayOf, 0) := by
  obtain ⟨G1, G2, G3, G4, G5⟩ := id V.1
  have hl := V.2
  unfold raster_Gray.f
  rw [check_eq, if_pos V]
  simp only [Option.bind_some, if_true, if_pos (show (0 : Int) ≤ (l.length : Int) by omega), if_pos (show ((l.length : Int)).toNat ≤ 281474976710656 by omega)]
  refine ev_loop (fun k i out => raster_Gray.l0 k l l.length i w h out) 0 l.length (by omega) (fun i out => out.length = l.length ∧ (∀ j : Nat, j < l.length → out.getD j 0 = if (j : Int) < i then grayOf (l.getD j false) else 0)) _ ?_ ?_ _ ?_
  · rintro i out hi0 hi ⟨ho, hI⟩ K
    by_cases hb : l.getD i.toNat false = true
    · refine Ev.step (f := fun k => raster_Gray.l0 k l l.length (i + 1) w h out) (fun k => ?_) (K _ ⟨ho, fun j hj => ?_⟩)
      · simp only [raster_Gray.l0]
        rw [if_pos hi, if_pos hi0, if_pos hi, if_pos (show rdOf false l i = true from hb), w64 (n := i + 1) (by omega)]
      · rw [hI j hj]
        by_cases hji : (j : Int) < i
        · rw [if_pos hji, if_pos (by omega)]
        · rw [if_neg hji]
          by_cases he : (j : Int) = i
          · have e : j = i.toNat := by omega
            rw [if_pos (by omega), e, hb]
            rfl
          · rw [if_neg (by omega)]
    · refine Ev.step (f := fun k => raster_Gray.l0 k l l.length (i + 1) w h (out.set i.toNat 255)) (fun k => ?_) (K _ ⟨by rw [List.length_set]; exact ho, fun j hj => ?_⟩)
      · simp only [raster_Gray.l0]
        rw [if_pos hi, if_pos hi0, if_pos hi, if_neg (show ¬ rdOf false l i = true from hb), if_pos (by omega), w64 (n := i + 1) (by omega)]
      · rw [getD_set_' _ _ _ _ _ (by omega), hI j hj]
        by_cases he : j = i.toNat
        · rw [if_pos he, if_pos (by omega), he]
          unfold grayOf
          rw [if_neg hb]
        · rw [if_neg he]
          by_cases hji : (j : Int) < i
          · rw [if_pos hji, if_pos (by omega)]
          · rw [if_neg hji, if_neg (by omega)]
  · rintro out ⟨ho, hI⟩
    refine ev_end (fun k => ?_)
    simp only [raster_Gray.l0]
    rw [if_neg (by omega)]
    have : out = l.map grayOf := by
      apply List.ext_getElem?
      intro j
      by_cases hj : j < l.length
      · have h1 := hI j hj
        rw [if_pos (by omega), List.getD_eq_getElem?_getD, List.getD_eq_getElem?_getD, List.getElem?_eq_getElem (show j < out.length by omega), List.getElem?_eq_getElem hj, Option.getD_some, Option.getD_some] at h1
        rw [List.getElem?_map, List.getElem?_eq_getElem (show j < out.length by omega), List.getElem?_eq_getElem hj, h1, Option.map_some]
      · rw [List.getElem?_eq_none (by omega), List.getElem?_eq_none (by rw [List.length_map]; omega)]
    rw [this]
  · refine ⟨by simp, fun j hj => ?_⟩
    rw [if_neg (by omega), getD_replicate]
/-- A table grayed. -/
def gr (x : Int × Int × (Int → Int → Bool)) : Int × Int × (Int → Int → Int) := (x.1, x.2.1, fun u v => grayOf (x.2.2 u v))
theorem tab_gr (x : Int × Int × (Int → Int → Bool)) : tab (gr x) = (tab x).map grayOf := by
  unfold tab gr upto
  rw [List.map_map]
  rfl
theorem rotN_gr : ∀ (n : Nat) (x : Int × Int × (Int → Int → Bool)), rotN n (gr x) = gr (rotN n x)
  | 0, x => rfl
  | n + 1, x => rotN_gr n (rot x)
theorem gray_range (l : List Bool) : ∀ x ∈ l.map grayOf, 0 ≤ x ∧ x ≤ 255 := by
  intro x hx
  obtain ⟨b, _, rfl⟩ := List.mem_map.1 hx
  unfold grayOf
  split <;> omega
end Go.Proofs.Ytbipbbckfmilfaa.Pure
