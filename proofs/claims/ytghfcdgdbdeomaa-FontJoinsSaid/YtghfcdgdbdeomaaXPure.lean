/-
Words for walks; what this claim does not need is left out. Conditions: as each theorem says.
-/
import Derived.Test.YtghfcdgdbdeomaaWWords
import Derived.Test.YtghfcdgdbdeomaaWMore
import Derived.Test.YtghfcdgdbdeomaaXWords
import Derived.IntWalk
namespace Go.Proofs.Ytghfcdgdbdeomaa.XPure
set_option linter.unusedVariables false
open Go.RowKit Go.Proofs.YtghfcdgdbdeomaaW.PrintWords Go.Proofs.YtghfcdgdbdeomaaW.PrintMore Go.Proofs.Ytghfcdgdbdeomaa.XWords
theorem w64 {n : Int} (h : -9223372036854775808 ≤ n ∧ n ≤ 9223372036854775807) : wrap64 n = n := Go.IntWalk.wrap64_in n h
theorem wf_u8 {n : Int} (h : (Lit.int .u8 n).wf = true) : 0 ≤ n ∧ n ≤ 255 := by
  have h1 : IntKind.u8.min = 0 := rfl
  have h2 : IntKind.u8.max = 255 := rfl
  simp [Lit.wf] at h
  omega
/-- A loop from a to b with an invariant. -/
theorem ev_loop {σ β : Type} (L : Nat → Int → σ → Option β) (a b : Int) (hab : a ≤ b) (Inv : Int → σ → Prop) (r : β)
    (hstep : ∀ i s, a ≤ i → i < b → Inv i s → (∀ s', Inv (i + 1) s' → Ev (fun k => L k (i + 1) s') r) → Ev (fun k => L k i s) r)
    (hend : ∀ s, Inv b s → Ev (fun k => L k b s) r) (s0 : σ) (h0 : Inv a s0) : Ev (fun k => L k a s0) r := by
  have key : ∀ (n : Nat) (i : Int) (s : σ), a ≤ i → (n : Int) = b - i → Inv i s → Ev (fun k => L k i s) r := by
    intro n
    induction n with
    | zero =>
      intro i s hi hn hI
      have : i = b := by omega
      subst this
      exact hend s hI
    | succ n ih =>
      intro i s hi hn hI
      exact hstep i s hi (by omega) hI (fun s' hs' => ih (i + 1) s' (by omega) (by omega) hs')
  exact key (b - a).toNat a s0 (Int.le_refl _) (by omega) h0
/-- One round gives the answer. -/
theorem ev_end {β : Type} {g : Nat → Option β} {r : β} (h : ∀ k, g (k + 1) = some r) : Ev g r := Ev.step (f := fun _ => some r) h (Ev.now r)
/-! ### Tables -/
/-- The first n places of a table of w columns. -/
def upto {α : Type} (w : Int) (g : Int → Int → α) (n : Nat) : List α := (List.range n).map fun i : Nat => g ((i : Int) % w) ((i : Int) / w)
theorem upto_length {α : Type} (w : Int) (g : Int → Int → α) (n : Nat) : (upto w g n).length = n := by simp [upto]
theorem upto_zero {α : Type} (w : Int) (g : Int → Int → α) : upto w g 0 = [] := by simp [upto]
theorem upto_congr {α : Type} {w : Int} {f g : Int → Int → α} {n : Nat} (h : ∀ i : Nat, i < n → f ((i : Int) % w) ((i : Int) / w) = g ((i : Int) % w) ((i : Int) / w)) : upto w f n = upto w g n := by
  unfold upto
  apply List.map_congr_left
  intro i hi
  exact h i (List.mem_range.1 hi)
theorem row_mod {w u v : Int} (h0 : 0 ≤ u) (h1 : u < w) : (v * w + u) % w = u := by
  rw [Int.add_comm, Int.add_mul_emod_self_right]
  exact Int.emod_eq_of_lt h0 h1
theorem row_div {w u v : Int} (h0 : 0 ≤ u) (h1 : u < w) : (v * w + u) / w = v := by
  rw [Int.add_comm, Int.add_mul_ediv_right _ _ (by omega), Int.ediv_eq_zero_of_lt h0 h1]
  omega
theorem row_nonneg {w u v : Int} (hw : 0 ≤ w) (hu : 0 ≤ u) (hv : 0 ≤ v) : 0 ≤ v * w + u := Int.add_nonneg (Int.mul_nonneg hv hw) hu
theorem row_lt {w h u v : Int} (hu : u < w) (h0 : 0 ≤ u) (hv : v < h) (hv0 : 0 ≤ v) : v * w + u < w * h := by
  have h1 : (v + 1) * w ≤ h * w := Int.mul_le_mul_of_nonneg_right (by omega) (by omega)
  rw [Int.add_mul, Int.one_mul] at h1
  rw [Int.mul_comm w h]
  omega
theorem upto_push {α : Type} {w : Int} {g : Int → Int → α} {n : Nat} {u v : Int} (h0 : 0 ≤ u) (h1 : u < w) (hn : (n : Int) = v * w + u) : upto w g (n + 1) = upto w g n ++ [g u v] := by
  unfold upto
  rw [List.range_succ, List.map_append, List.map_cons, List.map_nil, hn, row_mod h0 h1, row_div h0 h1]
theorem upto_getD {α : Type} {w : Int} {g : Int → Int → α} {n : Nat} {u v : Int} {d : α} (h0 : 0 ≤ u) (h1 : u < w) (hv : 0 ≤ v) (hn : v * w + u < n) : (upto w g n).getD (v * w + u).toNat d = g u v := by
  have hp : 0 ≤ v * w + u := row_nonneg (by omega) h0 hv
  have e : (((v * w + u).toNat : Nat) : Int) = v * w + u := Int.toNat_of_nonneg hp
  have hl : (v * w + u).toNat < n := by omega
  unfold upto
  rw [List.getD_eq_getElem?_getD, List.getElem?_map, List.getElem?_range hl, Option.map_some, Option.getD_some, e, row_mod h0 h1, row_div h0 h1]
theorem mod_div {w : Int} (hw : 0 < w) (i : Int) : i / w * w + i % w = i := by
  rw [Int.mul_comm]; exact Int.mul_ediv_add_emod i w
theorem div_lt {w h i : Int} (hw : 0 < w) (hi : i < w * h) : i / w < h := Int.ediv_lt_of_lt_mul hw (by rw [Int.mul_comm]; exact hi)
/-- Two loops that append, row by row. -/
theorem ev_table {α β : Type} (w h : Int) (hw : 0 ≤ w) (hh : 0 ≤ h) (g : Int → Int → α) (L0 : Nat → Int → List α → Option β) (L1 : Nat → Int → Int → List α → Option β) (fin : List α → β)
    (h0 : ∀ k v acc, 0 ≤ v → v < h → L0 (k + 1) v acc = L1 k v 0 acc)
    (h1 : ∀ k v u acc, 0 ≤ v → v < h → 0 ≤ u → u < w → (acc.length : Int) = v * w + u → L1 (k + 1) v u acc = L1 k v (u + 1) (acc ++ [g u v]))
    (h2 : ∀ k v acc, 0 ≤ v → v < h → L1 (k + 1) v w acc = L0 k (v + 1) acc)
    (h3 : ∀ k acc, L0 (k + 1) h acc = some (fin acc)) : Ev (fun k => L0 k 0 []) (fin (upto w g (w * h).toNat)) := by
  refine ev_loop L0 0 h hh (fun v acc => acc = upto w g (v * w).toNat) _ ?_ ?_ [] (by simp [upto_zero])
  · intro v acc hv hvh hI K
    refine Ev.step (f := fun k => L1 k v 0 acc) (fun k => h0 k v acc hv hvh) ?_
    refine ev_loop (fun k u acc => L1 k v u acc) 0 w hw (fun u acc => acc = upto w g (v * w + u).toNat) _ ?_ ?_ acc (by simpa using hI)
    · intro u acc hu huw hI K
      have hp := row_nonneg hw hu hv
      have hl : (acc.length : Int) = v * w + u := by rw [hI, upto_length]; omega
      refine Ev.step (f := fun k => L1 k v (u + 1) (acc ++ [g u v])) (fun k => h1 k v u acc hv hvh hu huw hl) (K _ ?_)
      have e : (v * w + (u + 1)).toNat = (v * w + u).toNat + 1 := by omega
      rw [e, upto_push (u := u) (v := v) hu huw (by omega), hI]
    · intro acc hI
      refine Ev.step (f := fun k => L0 k (v + 1) acc) (fun k => h2 k v acc hv hvh) (K acc ?_)
      rw [hI, Int.add_mul, Int.one_mul]
  · intro acc hI
    have e : h * w = w * h := Int.mul_comm _ _
    rw [e] at hI
    subst hI
    exact ev_end (fun k => h3 k _)
theorem getD_take_drop {α : Type} (xs : List α) (a b : Nat) (d : α) (j : Nat) (h : a + j < b) : ((xs.take b).drop a).getD j d = xs.getD (a + j) d := by
  simp only [List.getD_eq_getElem?_getD, List.getElem?_drop, List.getElem?_take, if_pos h]
end Go.Proofs.Ytghfcdgdbdeomaa.XPure
