/-
Erode, Dilate, Open, Close and Majority, told by boxes. Conditions: as each theorem says.
-/
import Derived.Test.YtkakiblnhgpdnaaXPlane
import Derived.Test.YtkakiblnhgpdnaaPRx6
import Derived.Test.YtkakiblnhgpdnaaPRx9
import Derived.Test.YtkakiblnhgpdnaaPRx23
import Derived.Test.YtkakiblnhgpdnaaPRx6
import Derived.Test.YtkakiblnhgpdnaaPRx7
import Derived.Test.YtkakiblnhgpdnaaPRx7
namespace Go.Proofs.Ytkakiblnhgpdnaa.Pure
set_option linter.unusedVariables false
set_option linter.unusedSimpArgs false
open Go.RowKit Go.Proofs.Ytkakiblnhgpdnaa.PR Go.Proofs.YtkakiblnhgpdnaaW.PrintWords Go.Proofs.YtkakiblnhgpdnaaW.PrintLast Go.Proofs.YtkakiblnhgpdnaaW.PrintMore Go.Proofs.Ytkakiblnhgpdnaa.XWords Go.Proofs.Ytkakiblnhgpdnaa.XPure

/-- A row of pixels whose dark ones are those of which P holds. -/
structure Shows (w h : Int) (l : List Bool) (P : Int → Int → Prop) : Prop where
  len : (l.length : Int) = w * h
  read : ∀ x y, 0 ≤ x → x < w → 0 ≤ y → y < h → (l.getD (y * w + x).toNat false = true ↔ P x y)
theorem shows_upto {w h : Int} (hw : 1 ≤ w) (hh : 1 ≤ h) {g : Int → Int → Bool} {P : Int → Int → Prop} (hg : ∀ x y, 0 ≤ x → x < w → 0 ≤ y → y < h → (g x y = true ↔ P x y)) : Shows w h (upto w g (w * h).toNat) P := by
  have hp : 1 * 1 ≤ w * h := Int.mul_le_mul hw hh (by omega) (by omega)
  refine ⟨by rw [upto_length]; omega, fun x y h1 h2 h3 h4 => ?_⟩
  have hl := row_lt (w := w) (h := h) h2 h1 h4 h3
  rw [upto_getD h1 h2 h3 (by omega)]
  exact hg x y h1 h2 h3 h4
theorem shows_eq {w h : Int} (hw : 1 ≤ w) {l m : List Bool} {P Q : Int → Int → Prop} (hl : Shows w h l P) (hm : Shows w h m Q) (e : ∀ x y, 0 ≤ x → x < w → 0 ≤ y → y < h → (P x y ↔ Q x y)) : l = m := by
  rw [upto_of (w := w) (h := h) (d := false) (l := l) (g := fun x y => l.getD (y * w + x).toNat false) (by omega) hl.len (fun u v _ _ _ _ => rfl)]
  refine (upto_of (w := w) (h := h) (d := false) (by omega) hm.len (fun u v a b c d => ?_)).symm
  rw [Bool.eq_iff_iff, hl.read u v a b c d, hm.read u v a b c d]
  exact (e u v a b c d).symm
/-- The dark pixels of a bitmap. -/
def Dk (w h : Int) (l : List Bool) (x y : Int) : Prop := pix false w h l x y = true
theorem dk_in {w h : Int} {l : List Bool} {x y : Int} (hd : Dk w h l x y) : 0 ≤ x ∧ x < w ∧ 0 ≤ y ∧ y < h := by
  unfold Dk pix at hd
  split at hd
  · assumption
  · cases hd
theorem shows_dk {w h : Int} {l : List Bool} {P : Int → Int → Prop} (hl : Shows w h l P) (x y : Int) : Dk w h l x y ↔ (0 ≤ x ∧ x < w ∧ 0 ≤ y ∧ y < h) ∧ P x y := by
  constructor
  · intro hd
    have hi := dk_in hd
    refine ⟨hi, ?_⟩
    unfold Dk at hd
    rw [pix_in hi.1 hi.2.1 hi.2.2.1 hi.2.2.2] at hd
    exact (hl.read x y hi.1 hi.2.1 hi.2.2.1 hi.2.2.2).1 hd
  · rintro ⟨hi, hp⟩
    unfold Dk
    rw [pix_in hi.1 hi.2.1 hi.2.2.1 hi.2.2.2]
    exact (hl.read x y hi.1 hi.2.1 hi.2.2.1 hi.2.2.2).2 hp
theorem shows_self {w h : Int} {l : List Bool} (V : Valid w h l.length) : Shows w h l (Dk w h l) := ⟨V.2, fun x y a b c d => by unfold Dk; rw [pix_in a b c d]⟩
theorem shows_valid {w h : Int} {l m : List Bool} {P : Int → Int → Prop} (V : Valid w h l.length) (hm : Shows w h m P) : Valid w h m.length := ⟨V.1, hm.len⟩

theorem rad_min {r w : Int} (hr : Rad r) (hw : 1 ≤ w) : Rad (min r w) := by unfold Rad at *; omega
/-- perform with one operation. -/
theorem perform1_ok {w h : Int} {l : List Bool} {r s : Int} (c : Nat) (g : (Int → Int → Bool) → Int → Int → Int → Int → Bool)
    (ht : ∀ {W H m n r s : Int} {l : List Bool} {D : Int → Int → Bool}, Tab W H l D → Rad r → Rad s → Ev (fun k => morphology_plane_transform.f k W H m n l r s c) (W, H, m, n, upto W (g D r s) (W * H).toNat))
    (V : Valid w h l.length) (hr : Rad r) (hs : Rad s) :
    Ev (fun k => morphology_perform.f k w h l r s [c]) (w, h, upto w (fun x y => fence w h (g (pix false w h l) (min r w) (min s h)) (x + 0) (y + 0)) (w * h).toNat, 0) := by
  obtain ⟨G1, G2, G3, G4, G5⟩ := id V.1
  have hc := check2_ok w h l r s
  rw [if_pos V, if_pos ⟨hr, hs⟩] at hc
  obtain ⟨t, T, hp⟩ := planeOf_ok (m := 0) (n := 0) V (by omega) (by omega) (by omega) (by omega)
  simp only [Int.mul_zero, Int.add_zero, Int.sub_zero] at T hp
  unfold morphology_perform.f
  refine Ev.bind hc ?_
  simp only [if_true]
  refine Ev.bind hp ?_
  simp only [if_neg (show ¬ ((([c] : List Nat).length : Int) > 1) by simp)]
  rw [mn_min, mn_min]
  have hr' := rad_min hr G1
  have hs' := rad_min hs G3
  refine Ev.step (f := fun k => morphology_perform.l0 k (min r w) (min s h) [c] 1 0 w h 0 0 t) (fun k => ?_) ?_
  · simp only [morphology_perform.j0]; rfl
  refine Ev.step (f := fun k => (morphology_plane_transform.f k w h 0 0 t (min r w) (min s h) c).bind fun bt => morphology_perform.l0 k (min r w) (min s h) [c] 1 1 bt.1 bt.2.1 bt.2.2.1 bt.2.2.2.1 bt.2.2.2.2) (fun k => ?_) ?_
  · simp only [morphology_perform.l0]
    rw [if_pos (by omega), if_pos (by omega), if_pos (by simp), w64 (n := 0 + 1) (by omega)]
    rfl
  refine Ev.bind (ht T hr' hs') ?_
  have T2 := tab_upto (W := w) (H := h) G1 (by omega) G3 (by omega) (g (pix false w h l) (min r w) (min s h))
  refine Ev.step (f := fun k => (morphology_plane_bitmap.f k w h 0 0 (upto w (g (pix false w h l) (min r w) (min s h)) (w * h).toNat)).bind fun bt => some (bt.1, bt.2.1, bt.2.2, 0)) (fun k => ?_) ?_
  · simp only [morphology_perform.l0]
    rw [if_neg (by omega)]
  exact Ev.bind (bitmap_ok (m := 0) (n := 0) T2 (by omega) (by omega) G1 G3 (by omega) (by omega)) (Ev.now _)
/-- perform with two operations. -/
theorem perform2_ok {w h : Int} {l : List Bool} {r s : Int} (c d : Nat) (g f : (Int → Int → Bool) → Int → Int → Int → Int → Bool)
    (ht : ∀ {W H m n r s : Int} {l : List Bool} {D : Int → Int → Bool}, Tab W H l D → Rad r → Rad s → Ev (fun k => morphology_plane_transform.f k W H m n l r s c) (W, H, m, n, upto W (g D r s) (W * H).toNat))
    (hu : ∀ {W H m n r s : Int} {l : List Bool} {D : Int → Int → Bool}, Tab W H l D → Rad r → Rad s → Ev (fun k => morphology_plane_transform.f k W H m n l r s d) (W, H, m, n, upto W (f D r s) (W * H).toNat))
    (V : Valid w h l.length) (hr : Rad r) (hs : Rad s) :
    Ev (fun k => morphology_perform.f k w h l r s [c, d]) (w, h, upto w (fun x y => fence (w + 2 * min r w) (h + 2 * min s h) (f (fence (w + 2 * min r w) (h + 2 * min s h) (g (fun x y => pix false w h l (x - min r w) (y - min s h)) (min r w) (min s h))) (min r w) (min s h)) (x + min r w) (y + min s h)) (w * h).toNat, 0) := by
  obtain ⟨G1, G2, G3, G4, G5⟩ := id V.1
  have hc := check2_ok w h l r s
  rw [if_pos V, if_pos ⟨hr, hs⟩] at hc
  obtain ⟨t, T, hp⟩ := planeOf_ok (m := 0) (n := 0) V (by omega) (by omega) (by omega) (by omega)
  have hr' := rad_min hr G1
  have hs' := rad_min hs G3
  obtain ⟨t2, T2, hp2⟩ := planeOf_ok (m := min r w) (n := min s h) V hr'.1 hr'.2 hs'.1 hs'.2
  unfold morphology_perform.f
  refine Ev.bind hc ?_
  simp only [if_true]
  refine Ev.bind hp ?_
  simp only [if_pos (show ((([c, d] : List Nat).length : Int) > 1) by simp)]
  rw [mn_min, mn_min]
  refine Ev.bind hp2 ?_
  have B1 := T2.w1
  have B2 := T2.w2
  have B3 := T2.h1
  have B4 := T2.h2
  generalize hm : min r w = m at *
  generalize hn : min s h = n at *
  generalize hW : w + 2 * m = W at *
  generalize hH : h + 2 * n = H at *
  refine Ev.step (f := fun k => morphology_perform.l0 k m n [c, d] 2 0 W H m n t2) (fun k => ?_) ?_
  · simp only [morphology_perform.j0]; rfl
  refine Ev.step (f := fun k => (morphology_plane_transform.f k W H m n t2 m n c).bind fun bt => morphology_perform.l0 k m n [c, d] 2 1 bt.1 bt.2.1 bt.2.2.1 bt.2.2.2.1 bt.2.2.2.2) (fun k => ?_) ?_
  · simp only [morphology_perform.l0]
    rw [if_pos (by omega), if_pos (by omega), if_pos (by simp), w64 (n := 0 + 1) (by omega)]
    rfl
  refine Ev.bind (ht T2 hr' hs') ?_
  have T3 := tab_upto (W := W) (H := H) B1 B2 B3 B4 (g (fun x y => pix false w h l (x - m) (y - n)) m n)
  refine Ev.step (f := fun k => (morphology_plane_transform.f k W H m n (upto W (g (fun x y => pix false w h l (x - m) (y - n)) m n) (W * H).toNat) m n d).bind fun bt => morphology_perform.l0 k m n [c, d] 2 2 bt.1 bt.2.1 bt.2.2.1 bt.2.2.2.1 bt.2.2.2.2) (fun k => ?_) ?_
  · simp only [morphology_perform.l0]
    rw [if_pos (by omega), if_pos (by omega), if_pos (by simp), w64 (n := 1 + 1) (by omega)]
    rfl
  refine Ev.bind (hu T3 hr' hs') ?_
  have T4 := tab_upto (W := W) (H := H) B1 B2 B3 B4 (f (fence W H (g (fun x y => pix false w h l (x - m) (y - n)) m n)) m n)
  refine Ev.step (f := fun k => (morphology_plane_bitmap.f k W H m n (upto W (f (fence W H (g (fun x y => pix false w h l (x - m) (y - n)) m n)) m n) (W * H).toNat)).bind fun bt => some (bt.1, bt.2.1, bt.2.2, 0)) (fun k => ?_) ?_
  · simp only [morphology_perform.l0]
    rw [if_neg (by omega)]
  exact Ev.bind (bitmap_ok T4 hW.symm hH.symm G1 G3 hr'.1 hs'.1) (Ev.now _)
theorem perform_bad {w h : Int} {l : List Bool} {r s : Int} (ls : List Nat) (B : ¬ (Valid w h l.length ∧ Rad r ∧ Rad s)) : Ev (fun k => morphology_perform.f k w h l r s ls) (0, 0, [], if Valid w h l.length then 3 else 1) := by
  have hc := check2_ok w h l r s
  unfold morphology_perform.f
  by_cases V : Valid w h l.length
  · have hR : ¬ (Rad r ∧ Rad s) := fun hh => B ⟨V, hh⟩
    rw [if_pos V, if_neg hR] at hc
    refine Ev.bind hc ?_
    rw [if_pos V]
    exact Ev.now _
  · rw [if_neg V] at hc
    refine Ev.bind hc ?_
    rw [if_neg V]
    exact Ev.now _
def ero (D : Int → Int → Bool) (r s x y : Int) : Bool := around D r s x y == (2 * r + 1) * (2 * s + 1)
def dil (D : Int → Int → Bool) (r s x y : Int) : Bool := decide (around D r s x y > 0)
theorem ero_iff {D : Int → Int → Bool} {r s x y : Int} (hr : Rad r) (hs : Rad s) : ero D r s x y = true ↔ Whole r s (fun u v => D u v = true) x y := by
  unfold ero
  rw [beq_iff_eq]
  exact around_whole hr.1 hs.1
theorem dil_iff {D : Int → Int → Bool} {r s x y : Int} (hr : Rad r) (hs : Rad s) : dil D r s x y = true ↔ Part r s (fun u v => D u v = true) x y := by
  unfold dil
  rw [decide_eq_true_iff]
  exact around_part hr.1 hs.1
theorem fence_in {W H : Int} {g : Int → Int → Bool} {x y : Int} (h1 : 0 ≤ x) (h2 : x < W) (h3 : 0 ≤ y) (h4 : y < H) : fence W H g x y = g x y := if_pos ⟨h1, h2, h3, h4⟩
theorem ero_tr {W H m n r s : Int} {l : List Bool} {D : Int → Int → Bool} (T : Tab W H l D) (hr : Rad r) (hs : Rad s) : Ev (fun k => morphology_plane_transform.f k W H m n l r s 46) (W, H, m, n, upto W (ero D r s) (W * H).toNat) := transform_46_ok T hr hs
theorem dil_tr {W H m n r s : Int} {l : List Bool} {D : Int → Int → Bool} (T : Tab W H l D) (hr : Rad r) (hs : Rad s) : Ev (fun k => morphology_plane_transform.f k W H m n l r s 47) (W, H, m, n, upto W (dil D r s) (W * H).toNat) := transform_47_ok T hr hs

theorem via_perform {F G : Nat → Option (Int × Int × List Bool × Int)} {R : Int × Int × List Bool × Int} (h : Ev G R) (e : ∀ k, F k = (G k).bind fun bt => some (bt.1, bt.2.1, bt.2.2.1, bt.2.2.2)) : Ev F R := Ev.congr e (Ev.bind h (Ev.now R))
theorem erode_ok {w h : Int} {l : List Bool} {r s : Int} (V : Valid w h l.length) (hr : Rad r) (hs : Rad s) : ∃ L, Shows w h L (Whole (min r w) (min s h) (Dk w h l)) ∧ Ev (fun k => morphology_Erode.f k w h l r s) (w, h, L, 0) := by
  have hE := via_perform (F := fun k => morphology_Erode.f k w h l r s) (perform1_ok 46 ero ero_tr V hr hs) (fun k => rfl)
  refine ⟨_, ?_, hE⟩
  · refine shows_upto V.1.1 V.1.2.2.1 (fun x y a b c d => ?_)
    rw [Int.add_zero, Int.add_zero, fence_in a b c d]
    exact ero_iff (rad_min hr V.1.1) (rad_min hs V.1.2.2.1)
theorem dilate_ok {w h : Int} {l : List Bool} {r s : Int} (V : Valid w h l.length) (hr : Rad r) (hs : Rad s) : ∃ L, Shows w h L (Part (min r w) (min s h) (Dk w h l)) ∧ Ev (fun k => morphology_Dilate.f k w h l r s) (w, h, L, 0) := by
  have hE := via_perform (F := fun k => morphology_Dilate.f k w h l r s) (perform1_ok 47 dil dil_tr V hr hs) (fun k => rfl)
  refine ⟨_, ?_, hE⟩
  · refine shows_upto V.1.1 V.1.2.2.1 (fun x y a b c d => ?_)
    rw [Int.add_zero, Int.add_zero, fence_in a b c d]
    exact dil_iff (rad_min hr V.1.1) (rad_min hs V.1.2.2.1)
/-- Boxes in a plane with margins are those of the bitmap. -/
theorem whole_move {r s d e x y : Int} {P : Int → Int → Prop} : Whole r s (fun u v => P (u - d) (v - e)) (x + d) (y + e) ↔ Whole r s P x y := by
  constructor
  · intro hh u v a b c f
    have : P (u + d - d) (v + e - e) := hh (u + d) (v + e) (by omega) (by omega) (by omega) (by omega)
    have e1 : u + d - d = u := by omega
    have e2 : v + e - e = v := by omega
    rwa [e1, e2] at this
  · intro hh u v a b c f
    exact hh (u - d) (v - e) (by omega) (by omega) (by omega) (by omega)
theorem part_move {r s d e x y : Int} {P : Int → Int → Prop} : Part r s (fun u v => P (u - d) (v - e)) (x + d) (y + e) ↔ Part r s P x y := by
  constructor
  · rintro ⟨u, v, a, b, c, f, hp⟩
    exact ⟨u - d, v - e, by omega, by omega, by omega, by omega, hp⟩
  · rintro ⟨u, v, a, b, c, f, hp⟩
    have e1 : u + d - d = u := by omega
    have e2 : v + e - e = v := by omega
    exact ⟨u + d, v + e, by omega, by omega, by omega, by omega, by show P (u + d - d) (v + e - e); rw [e1, e2]; exact hp⟩
theorem open_ok {w h : Int} {l : List Bool} {r s : Int} (V : Valid w h l.length) (hr : Rad r) (hs : Rad s) : ∃ L, Shows w h L (Part (min r w) (min s h) (Whole (min r w) (min s h) (Dk w h l))) ∧ Ev (fun k => morphology_Open.f k w h l r s) (w, h, L, 0) := by
  have hE := via_perform (F := fun k => morphology_Open.f k w h l r s) (perform2_ok 46 47 ero dil ero_tr dil_tr V hr hs) (fun k => rfl)
  refine ⟨_, ?_, hE⟩
  · have hr' := rad_min hr V.1.1
    have hs' := rad_min hs V.1.2.2.1
    generalize min r w = m at *
    generalize min s h = n at *
    have m0 := hr'.1
    have n0 := hs'.1
    refine shows_upto V.1.1 V.1.2.2.1 (fun x y a b c d => ?_)
    rw [fence_in (by omega) (by omega) (by omega) (by omega), dil_iff hr' hs']
    refine Iff.trans ?_ (part_move (d := m) (e := n) (P := Whole m n (Dk w h l)))
    constructor
    · rintro ⟨u, v, p1, p2, p3, p4, hp⟩
      refine ⟨u, v, p1, p2, p3, p4, ?_⟩
      simp only [fence_in (show 0 ≤ u by omega) (show u < w + 2 * m by omega) (show 0 ≤ v by omega) (show v < h + 2 * n by omega), ero_iff hr' hs'] at hp
      refine (whole_move (d := m) (e := n) (x := u - m) (y := v - n) (P := Dk w h l)).1 ?_
      have e1 : u - m + m = u := by omega
      have e2 : v - n + n = v := by omega
      rw [e1, e2]
      exact hp
    · rintro ⟨u, v, p1, p2, p3, p4, hp⟩
      refine ⟨u, v, p1, p2, p3, p4, ?_⟩
      simp only [fence_in (show 0 ≤ u by omega) (show u < w + 2 * m by omega) (show 0 ≤ v by omega) (show v < h + 2 * n by omega), ero_iff hr' hs']
      have := (whole_move (d := m) (e := n) (x := u - m) (y := v - n) (P := Dk w h l)).2 hp
      have e1 : u - m + m = u := by omega
      have e2 : v - n + n = v := by omega
      rw [e1, e2] at this
      exact this
theorem close_ok {w h : Int} {l : List Bool} {r s : Int} (V : Valid w h l.length) (hr : Rad r) (hs : Rad s) : ∃ L, Shows w h L (Whole (min r w) (min s h) (Part (min r w) (min s h) (Dk w h l))) ∧ Ev (fun k => morphology_Close.f k w h l r s) (w, h, L, 0) := by
  have hE := via_perform (F := fun k => morphology_Close.f k w h l r s) (perform2_ok 47 46 dil ero dil_tr ero_tr V hr hs) (fun k => rfl)
  refine ⟨_, ?_, hE⟩
  · have hr' := rad_min hr V.1.1
    have hs' := rad_min hs V.1.2.2.1
    generalize min r w = m at *
    generalize min s h = n at *
    have m0 := hr'.1
    have n0 := hs'.1
    refine shows_upto V.1.1 V.1.2.2.1 (fun x y a b c d => ?_)
    rw [fence_in (by omega) (by omega) (by omega) (by omega), ero_iff hr' hs']
    refine Iff.trans ?_ (whole_move (d := m) (e := n) (P := Part m n (Dk w h l)))
    constructor
    · intro hh u v p1 p2 p3 p4
      have hp := hh u v p1 p2 p3 p4
      simp only [fence_in (show 0 ≤ u by omega) (show u < w + 2 * m by omega) (show 0 ≤ v by omega) (show v < h + 2 * n by omega), dil_iff hr' hs'] at hp
      refine (part_move (d := m) (e := n) (x := u - m) (y := v - n) (P := Dk w h l)).1 ?_
      have e1 : u - m + m = u := by omega
      have e2 : v - n + n = v := by omega
      rw [e1, e2]
      exact hp
    · intro hh u v p1 p2 p3 p4
      have hp := hh u v p1 p2 p3 p4
      simp only [fence_in (show 0 ≤ u by omega) (show u < w + 2 * m by omega) (show 0 ≤ v by omega) (show v < h + 2 * n by omega), dil_iff hr' hs']
      have := (part_move (d := m) (e := n) (x := u - m) (y := v - n) (P := Dk w h l)).2 hp
      have e1 : u - m + m = u := by omega
      have e2 : v - n + n = v := by omega
      rw [e1, e2] at this
      exact this
theorem op_bad {w h : Int} {l : List Bool} {r s : Int} (B : ¬ (Valid w h l.length ∧ Rad r ∧ Rad s)) :
    Ev (fun k => morphology_Erode.f k w h l r s) (0, 0, [], if Valid w h l.length then 3 else 1) ∧ Ev (fun k => morphology_Dilate.f k w h l r s) (0, 0, [], if Valid w h l.length then 3 else 1) ∧
    Ev (fun k => morphology_Open.f k w h l r s) (0, 0, [], if Valid w h l.length then 3 else 1) ∧ Ev (fun k => morphology_Close.f k w h l r s) (0, 0, [], if Valid w h l.length then 3 else 1) := by
  unfold morphology_Erode.f morphology_Dilate.f morphology_Open.f morphology_Close.f morphology_dilation.f morphology_erosion.f
  simp only [Option.bind_some]
  exact ⟨Ev.bind (perform_bad [46] B) (Ev.now _), Ev.bind (perform_bad [47] B) (Ev.now _), Ev.bind (perform_bad [46, 47] B) (Ev.now _), Ev.bind (perform_bad [47, 46] B) (Ev.now _)⟩
theorem majority_ok {w h : Int} {l : List Bool} {r : Int} (V : Valid w h l.length) (hr : Rad r) : Ev (fun k => morphology_Majority.f k w h l r) (w, h, upto w (fun x y => fence w h (fun x y => decide (2 * around (pix false w h l) r r x y > (2 * r + 1) * (2 * r + 1))) (x + 0) (y + 0)) (w * h).toNat, 0) := by
  obtain ⟨G1, G2, G3, G4, G5⟩ := id V.1
  have hc := check1_ok w h l r
  rw [if_pos V, if_pos hr] at hc
  obtain ⟨t, T, hp⟩ := planeOf_ok (m := 0) (n := 0) V (by omega) (by omega) (by omega) (by omega)
  simp only [Int.mul_zero, Int.add_zero, Int.sub_zero] at T hp
  unfold morphology_Majority.f morphology_majority.f
  refine Ev.bind hc ?_
  simp only [if_true]
  refine Ev.bind hp ?_
  simp only [Option.bind_some]
  refine Ev.bind (transform_52_ok T hr hr) ?_
  have T2 := tab_upto (W := w) (H := h) G1 (by omega) G3 (by omega) (fun x y => decide (2 * around (pix false w h l) r r x y > (2 * r + 1) * (2 * r + 1)))
  exact Ev.bind (bitmap_ok (W := w) (H := h) (m := 0) (n := 0) T2 (by omega) (by omega) G1 G3 (by omega) (by omega)) (Ev.now _)
theorem majority_bad {w h : Int} {l : List Bool} {r : Int} (B : ¬ (Valid w h l.length ∧ Rad r)) : Ev (fun k => morphology_Majority.f k w h l r) (0, 0, [], if Valid w h l.length then 3 else 1) := by
  have hc := check1_ok w h l r
  unfold morphology_Majority.f
  by_cases V : Valid w h l.length
  · rw [if_pos V, if_neg (fun hh => B ⟨V, hh⟩)] at hc
    refine Ev.bind hc ?_
    rw [if_pos V]
    exact Ev.now _
  · rw [if_neg V] at hc
    refine Ev.bind hc ?_
    rw [if_neg V]
    exact Ev.now _
end Go.Proofs.Ytkakiblnhgpdnaa.Pure
