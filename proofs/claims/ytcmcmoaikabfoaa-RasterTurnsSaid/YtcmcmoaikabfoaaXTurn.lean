/-
Turns, mirroring and gray of tables: what the functions answer, and the group of the square. Conditions: as each theorem says.
-/
import Derived.Test.YtcmcmoaikabfoaaXImages
import Derived.Test.YtcmcmoaikabfoaaPRx3
import Derived.Test.YtcmcmoaikabfoaaPRx3
import Derived.Laws.BitsLemmas
namespace Go.Proofs.Ytcmcmoaikabfoaa.Pure
set_option linter.unusedVariables false
set_option linter.unusedSimpArgs false
open Go.RowKit Go.Proofs.Ytcmcmoaikabfoaa.PR Go.Proofs.YtcmcmoaikabfoaaW.PrintWords Go.Proofs.YtcmcmoaikabfoaaW.PrintLast Go.Proofs.YtcmcmoaikabfoaaW.PrintMore Go.Proofs.Ytcmcmoaikabfoaa.XWords Go.Proofs.Ytcmcmoaikabfoaa.XPure

theorem and3 (a : Int) : Go.bits .and .i64 a 3 = a % 4 := by
  have h : (BitVec.ofInt 64 a &&& BitVec.ofInt 64 3).toNat = (a % 18446744073709551616).toNat % 4 := by
    rw [BitVec.toNat_and, BitVec.toNat_ofInt, BitVec.toNat_ofInt]
    exact Nat.and_two_pow_sub_one_eq_mod _ 2
  show IntKind.i64.wrap ((BitVec.ofInt 64 a &&& BitVec.ofInt 64 3).toNat : Int) = a % 4
  rw [h, Go.IntKind.wrap_i64]
  omega
theorem Fits.turn {w h : Int} (F : Fits w h) : Fits h w := ⟨F.2.2.1, F.2.2.2.1, F.1, F.2.1, by rw [Int.mul_comm]; exact F.2.2.2.2⟩

/-- The table's row of pixels. -/
def tab {α : Type} (x : (Int × Int × (Int → Int → α))) : List α := upto x.1 x.2.2 (x.1 * x.2.1).toNat
/-- A quarter turn. -/
def rot {α : Type} (x : (Int × Int × (Int → Int → α))) : (Int × Int × (Int → Int → α)) := (x.2.1, x.1, fun u v => x.2.2 v (x.2.1 - 1 - u))
/-- Mirrored. -/
def mir {α : Type} (x : (Int × Int × (Int → Int → α))) : (Int × Int × (Int → Int → α)) := (x.1, x.2.1, fun u v => x.2.2 (x.1 - 1 - u) v)
def rotN {α : Type} : Nat → (Int × Int × (Int → Int → α)) → (Int × Int × (Int → Int → α))
  | 0, x => x
  | n + 1, x => rotN n (rot x)
theorem rotN_add {α : Type} (a b : Nat) (x : (Int × Int × (Int → Int → α))) : rotN b (rotN a x) = rotN (a + b) x := by
  induction a generalizing x with
  | zero => rw [Nat.zero_add]; rfl
  | succ a ih =>
    have e : a + 1 + b = a + b + 1 := by omega
    rw [e]
    exact ih (rot x)
theorem rotN_succ {α : Type} (n : Nat) (x : (Int × Int × (Int → Int → α))) : rotN (n + 1) x = rot (rotN n x) := (rotN_add n 1 x).symm
theorem rot4 {α : Type} (x : (Int × Int × (Int → Int → α))) : rotN 4 x = x := by
  obtain ⟨w, h, g⟩ := x
  simp only [rotN, rot]
  congr 2
  funext u v
  have e1 : w - 1 - (w - 1 - u) = u := by omega
  have e2 : h - 1 - (h - 1 - v) = v := by omega
  rw [e1, e2]
theorem rotN_mul {α : Type} (n : Nat) (x : (Int × Int × (Int → Int → α))) : rotN (4 * n) x = x := by
  induction n with
  | zero => rfl
  | succ n ih =>
    have e : 4 * (n + 1) = 4 + 4 * n := by omega
    rw [e, ← rotN_add, rot4, ih]
theorem rotN_mod {α : Type} (n : Nat) (x : (Int × Int × (Int → Int → α))) : rotN n x = rotN (n % 4) x := by
  have e : n = 4 * (n / 4) + n % 4 := by omega
  rw [e, ← rotN_add, rotN_mul]
  congr 1
  omega
theorem rotN_eq {α : Type} {m n : Nat} (x : (Int × Int × (Int → Int → α))) (h : m % 4 = n % 4) : rotN m x = rotN n x := by rw [rotN_mod m, rotN_mod n, h]
theorem mir_mir {α : Type} (x : (Int × Int × (Int → Int → α))) : mir (mir x) = x := by
  obtain ⟨w, h, g⟩ := x
  simp only [mir]
  congr 2
  funext u v
  have e1 : w - 1 - (w - 1 - u) = u := by omega
  rw [e1]
theorem rot_mir {α : Type} (x : (Int × Int × (Int → Int → α))) : rot (mir x) = mir (rotN 3 x) := by
  obtain ⟨w, h, g⟩ := x
  simp only [mir, rotN, rot]
  congr 2
  funext u v
  have e1 : h - 1 - (h - 1 - u) = u := by omega
  simp only [e1]
theorem rotN_mir {α : Type} (n : Nat) (x : (Int × Int × (Int → Int → α))) : rotN n (mir x) = mir (rotN (3 * n) x) := by
  induction n generalizing x with
  | zero => rfl
  | succ n ih =>
    show rotN n (rot (mir x)) = _
    have e : 3 * (n + 1) = 3 + 3 * n := by omega
    rw [rot_mir, ih, rotN_add, e]
theorem rotN_fits {α : Type} (n : Nat) (x : (Int × Int × (Int → Int → α))) (F : Fits x.1 x.2.1) : Fits (rotN n x).1 (rotN n x).2.1 := by
  induction n generalizing x with
  | zero => exact F
  | succ n ih => exact ih (rot x) F.turn
theorem tab_length {α : Type} {x : (Int × Int × (Int → Int → α))} (F : Fits x.1 x.2.1) : ((tab x).length : Int) = x.1 * x.2.1 := by
  have := F.pos
  unfold tab
  rw [upto_length]
  omega
theorem tab_valid {α : Type} {x : (Int × Int × (Int → Int → α))} (F : Fits x.1 x.2.1) : Valid x.1 x.2.1 (tab x).length := ⟨F, tab_length F⟩
theorem tab_get {α : Type} {x : (Int × Int × (Int → Int → α))} {u v : Int} (d : α) (F : Fits x.1 x.2.1) (h0 : 0 ≤ u) (h1 : u < x.1) (h2 : 0 ≤ v) (h3 : v < x.2.1) : (tab x).getD (v * x.1 + u).toNat d = x.2.2 u v := by
  have hl := row_lt (w := x.1) (h := x.2.1) h1 h0 h3 h2
  unfold tab
  exact upto_getD h0 h1 h2 (by omega)
/-- Each valid table is one of a function. -/
theorem tab_of {α : Type} (d : α) {w h : Int} {l : List α} (V : Valid w h l.length) : l = tab (w, h, fun u v => l.getD (v * w + u).toNat d) :=
  upto_of (d := d) (by have := V.1.1; omega) V.2 (fun u v _ _ _ _ => rfl)
theorem tab_small {α : Type} {x : (Int × Int × (Int → Int → α))} (F : Fits x.1 x.2.1) : (tab x).length ≤ 4194304 := by
  have := tab_length F
  have := F.2.2.2.2
  omega

theorem turned_b_ok {x : (Int × Int × (Int → Int → Bool))} (F : Fits x.1 x.2.1) : Ev (fun k => raster_turned_bool.f k (tab x) x.1 x.2.1) (tab (rot x)) := by
  obtain ⟨G1, G2, G3, G4, G5⟩ := id F
  have hl := tab_length F
  unfold raster_turned_bool.f
  simp only [if_pos (show (0 : Int) ≤ ((tab x).length : Int) by omega), if_pos (show (((tab x).length : Int)).toNat ≤ 281474976710656 by omega)]
  refine ev_table x.2.1 x.1 (by omega) (by omega) (fun u v => x.2.2 v (x.2.1 - 1 - u)) (fun k v acc => raster_turned_bool.l0 k (tab x) x.1 x.2.1 acc x.1 v) (fun k v u acc => raster_turned_bool.l1 k (tab x) x.1 x.2.1 acc v x.1 v x.2.1 u) (fun acc => acc) ?_ ?_ ?_ ?_
  · intro k v acc hv0 hv
    simp only [raster_turned_bool.l0]
    rw [if_pos hv]
  · intro k v u acc hv0 hv hu0 hu hacc
    have hp0 := row_nonneg (w := x.1) (u := v) (v := x.2.1 - 1 - u) (by omega) hv0 (by omega)
    have hp1 := row_lt (w := x.1) (h := x.2.1) (u := v) (v := x.2.1 - 1 - u) hv hv0 (by omega) (by omega)
    have hm : 0 ≤ (x.2.1 - 1 - u) * x.1 := Int.mul_nonneg (by omega) (by omega)
    have hc0 := row_lt (w := x.2.1) (h := x.1) (u := u) (v := v) hu hu0 hv hv0
    rw [Int.mul_comm x.2.1 x.1] at hc0
    have hg : rdOf false (tab x) ((x.2.1 - 1 - u) * x.1 + v) = x.2.2 v (x.2.1 - 1 - u) := tab_get false F hv0 hv (by omega) (by omega)
    simp only [raster_turned_bool.l1]
    rw [if_pos hu, w64 (n := x.2.1 - 1) (by omega), w64 (n := x.2.1 - 1 - u) (by omega), w64 (n := (x.2.1 - 1 - u) * x.1) (by omega), w64 (n := (x.2.1 - 1 - u) * x.1 + v) (by omega), if_pos hp0, if_pos (by omega), if_pos (by omega), hg, w64 (n := u + 1) (by omega)]
  · intro k v acc hv0 hv
    simp only [raster_turned_bool.l1]
    rw [if_neg (by omega), w64 (n := v + 1) (by omega)]
  · intro k acc
    simp only [raster_turned_bool.l0]
    rw [if_neg (by omega)]
theorem turnLoop_b_ok {x : (Int × Int × (Int → Int → Bool))} (F : Fits x.1 x.2.1) {n : Int} (h0 : 0 ≤ n) (h1 : n ≤ 4) :
    Ev (fun k => raster_Turn.l0 k n 0 x.1 x.2.1 (tab x)) ((rotN n.toNat x).1, (rotN n.toNat x).2.1, tab (rotN n.toNat x), 0) := by
  refine ev_loop (fun k i (s : Int × Int × List Bool) => raster_Turn.l0 k n i s.1 s.2.1 s.2.2) 0 n h0 (fun i s => s = ((rotN i.toNat x).1, (rotN i.toNat x).2.1, tab (rotN i.toNat x))) _ ?_ ?_ (x.1, x.2.1, tab x) rfl
  · rintro i s hi0 hi hI K
    subst hI
    have F2 := rotN_fits i.toNat x F
    refine Ev.step (f := fun k => (raster_turned_bool.f k (tab (rotN i.toNat x)) (rotN i.toNat x).1 (rotN i.toNat x).2.1).bind fun t => raster_Turn.l0 k n (i + 1) (rotN i.toNat x).2.1 (rotN i.toNat x).1 t) (fun k => ?_) (Ev.bind (turned_b_ok F2) (K ((rotN i.toNat x).2.1, (rotN i.toNat x).1, tab (rot (rotN i.toNat x))) ?_))
    · simp only [raster_Turn.l0]
      rw [if_pos hi, w64 (n := i + 1) (by omega)]
    · have e : (i + 1).toNat = i.toNat + 1 := by omega
      rw [e, rotN_succ]
      rfl
  · rintro s hI
    subst hI
    refine ev_end (fun k => ?_)
    simp only [raster_Turn.l0]
    rw [if_neg (by omega)]

theorem clone_eq {l : List Bool} (hl : l.length ≤ 4194304) (w h : Int) : raster_clone.f w h l = some (w, h, l) := by
  unfold raster_clone.f slices_Clone_bool_bool.f
  rw [if_pos (by omega)]
  rfl
theorem turn_ok {x : (Int × Int × (Int → Int → Bool))} (F : Fits x.1 x.2.1) (a : Int) :
    Ev (fun k => raster_Turn.f k x.1 x.2.1 (tab x) a) ((rotN (a % 4).toNat x).1, (rotN (a % 4).toNat x).2.1, tab (rotN (a % 4).toNat x), 0) := by
  unfold raster_Turn.f
  rw [check_eq, if_pos (tab_valid F), clone_eq (tab_small F), and3]
  simp only [Option.bind_some, if_true]
  exact turnLoop_b_ok F (by omega) (by omega)
theorem turn_bad {w h : Int} {l : List Bool} (B : ¬ Valid w h l.length) (a : Int) : ∀ k, raster_Turn.f k w h l a = some (0, 0, [], 1) := by
  intro k
  unfold raster_Turn.f
  rw [check_eq, if_neg B]
  rfl
end Go.Proofs.Ytcmcmoaikabfoaa.Pure
