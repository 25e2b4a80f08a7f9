/-
Words for walks; what this claim does not need is left out. Conditions: as each theorem says.
-/
import Derived.Test.YtbipbbckfmilfaaWWords
import Derived.Test.YtbipbbckfmilfaaWMore
import Derived.Test.YtbipbbckfmilfaaXWords
import Derived.IntWalk
namespace Go.Proofs.Ytbipbbckfmilfaa.XPure
set_option linter.unusedVariables false
open Go.RowKit Go.Proofs.YtbipbbckfmilfaaW.PrintWords Go.Proofs.YtbipbbckfmilfaaW.PrintMore Go.Proofs.Ytbipbbckfmilfaa.XWords
theorem w64 {n : Int} (h : -9223372036854775808 ≤ n ∧ n ≤ 9223372036854775807) : wrap64 n = n := Go.IntWalk.wrap64_in n h
theorem wf_u8 {n : Int} (h : (Lit.int .u8 n).wf = true) : 0 ≤ n ∧ n ≤ 255 := by
  have h1 : IntKind.u8.min = 0 := rfl
  have h2 : IntKind.u8.max = 255 := rfl
  simp [Lit.wf] at h
  omega
/-- A loop from a to b with an invariant. -/
theorem ev_loop {σ β : Type} (L : Nat → Int → σ → Option β) (a b : Int) (hab : a ≤ b) (Inv : Int → σ → Prop) (r : β)
    (hstep : ∀ i s, a ≤ i → i < b → Inv i s → (∀ s', Inv (i + 1) s' → Ev (fun k => L k (i + 1) s') r) → Ev (fun k => L k i s) r)
    (hend : ∀ s, Inv b s → Ev (fun k => L k b s) r) (s0 : σ) (h0 : Inv a s0) : Ev (fun k => L k a s0) r := by
  have key : ∀ (n : Nat) (i : Int) (s : σ), a ≤ i → (n : Int) = b - i → Inv i s → Ev (fun k => L k i s) r := by
    intro n
    induction n with
    | zero =>
      intro i s hi hn hI
      have : i = b := by omega
      subst this
      exact hend s hI
    | succ n ih =>
      intro i s hi hn hI
      exact hstep i s hi (by omega) hI (fun s' hs' => ih (i + 1) s' (by omega) (by omega) hs')
  exact key (b - a).toNat a s0 (Int.le_refl _) (by omega) h0
/-- One round gives the answer. -/
theorem ev_end {β : Type} {g : Nat → Option β} {r : β} (h : ∀ k, g (k + 1) = some r) : Ev g r := Ev.step (f := fun _ => some r) h (Ev.now r)
/-! ### Tables -/
/-- The first n places of a table of w columns. -/
def upto {α : Type} (w : Int) (g : Int → Int → α) (n : Nat) : List α := (List.range n).map fun i : Nat => g ((i : Int) % w) ((i : Int) / w)
theorem upto_length {α : Type} (w : Int) (g : Int → Int → α) (n : Nat) : (upto w g n).length = n := by simp [upto]
theorem upto_zero {α : Type} (w : Int) (g : Int → Int → α) : upto w g 0 = [] := by simp [upto]
theorem row_mod {w u v : Int} (h0 : 0 ≤ u) (h1 : u < w) : (v * w + u) % w = u := by
  rw [Int.add_comm, Int.add_mul_emod_self_right]
  exact Int.emod_eq_of_lt h0 h1
theorem row_div {w u v : Int} (h0 : 0 ≤ u) (h1 : u < w) : (v * w + u) / w = v := by
  rw [Int.add_comm, Int.add_mul_ediv_right _ _ (by omega), Int.ediv_eq_zero_of_lt h0 h1]
  omega
theorem row_nonneg {w u v : Int} (hw : 0 ≤ w) (hu : 0 ≤ u) (hv : 0 ≤ v) : 0 ≤ v * w + u := Int.add_nonneg (Int.mul_nonneg hv hw) hu
theorem row_lt {w h u v : Int} (hu : u < w) (h0 : 0 ≤ u) (hv : v < h) (hv0 : 0 ≤ v) : v * w + u < w * h := by
  have h1 : (v + 1) * w ≤ h * w := Int.mul_le_mul_of_nonneg_right (by omega) (by omega)
  rw [Int.add_mul, Int.one_mul] at h1
  rw [Int.mul_comm w h]
  omega
theorem upto_push {α : Type} {w : Int} {g : Int → Int → α} {n : Nat} {u v : Int} (h0 : 0 ≤ u) (h1 : u < w) (hn : (n : Int) = v * w + u) : upto w g (n + 1) = upto w g n ++ [g u v] := by
  unfold upto
  rw [List.range_succ, List.map_append, List.map_cons, List.map_nil, hn, row_mod h0 h1, row_div h0 h1]
theorem upto_getD {α : Type} {w : Int} {g : Int → Int → α} {n : Nat} {u v : Int} {d : α} (h0 : 0 ≤ u) (h1 : u < w) (hv : 0 ≤ v) (hn : v * w + u < n) : (upto w g n).getD (v * w + u).toNat d = g u v := by
  have hp : 0 ≤ v * w + u := row_nonneg (by omega) h0 hv
  have e : (((v * w + u).toNat : Nat) : Int) = v * w + u := Int.toNat_of_nonneg hp
  have hl : (v * w + u).toNat < n := by omega
  unfold upto
  rw [List.getD_eq_getElem?_getD, List.getElem?_map, List.getElem?_range hl, Option.map_some, Option.getD_some, e, row_mod h0 h1, row_div h0 h1]
theorem mod_div {w : Int} (hw : 0 < w) (i : Int) : i / w * w + i % w = i := by
  rw [Int.mul_comm]; exact Int.mul_ediv_add_emod i w
theorem div_lt {w h i : Int} (hw : 0 < w) (hi : i < w * h) : i / w < h := Int.ediv_lt_of_lt_mul hw (by rw [Int.mul_comm]; exact hi)
/-- A list that reads as a table is the table. -/
theorem upto_of {α : Type} {w h : Int} {g : Int → Int → α} {l : List α} {d : α} (hw : 0 < w) (hl : (l.length : Int) = w * h)
    (hg : ∀ u v, 0 ≤ u → u < w → 0 ≤ v → v < h → l.getD (v * w + u).toNat d = g u v) : l = upto w g (w * h).toNat := by
  have hn : (w * h).toNat = l.length := by omega
  rw [hn]
  apply List.ext_getElem?
  intro i
  by_cases hi : i < l.length
  · have h1 := hg ((i : Int) % w) ((i : Int) / w) (Int.emod_nonneg _ (by omega)) (Int.emod_lt_of_pos _ hw) (Int.ediv_nonneg (by omega) (by omega)) (div_lt hw (by omega))
    rw [mod_div hw, Int.toNat_natCast, List.getD_eq_getElem?_getD, List.getElem?_eq_getElem hi, Option.getD_some] at h1
    unfold upto
    rw [List.getElem?_map, List.getElem?_range hi, List.getElem?_eq_getElem hi, h1, Option.map_some]
  · rw [List.getElem?_eq_none (by omega), List.getElem?_eq_none (by rw [upto_length]; omega)]
/-- Two loops that append, row by row. -/
theorem ev_table {α β : Type} (w h : Int) (hw : 0 ≤ w) (hh : 0 ≤ h) (g : Int → Int → α) (L0 : Nat → Int → List α → Option β) (L1 : Nat → Int → Int → List α → Option β) (fin : List α → β)
    (h0 : ∀ k v acc, 0 ≤ v → v < h → L0 (k + 1) v acc = L1 k v 0 acc)
    (h1 : ∀ k v u acc, 0 ≤ v → v < h → 0 ≤ u → u < w → (acc.length : Int) = v * w + u → L1 (k + 1) v u acc = L1 k v (u + 1) (acc ++ [g u v]))
    (h2 : ∀ k v acc, 0 ≤ v → v < h → L1 (k + 1) v w acc = L0 k (v + 1) acc)
    (h3 : ∀ k acc, L0 (k + 1) h acc = some (fin acc)) : Ev (fun k => L0 k 0 []) (fin (upto w g (w * h).toNat)) := by
  refine ev_loop L0 0 h hh (fun v acc => acc = upto w g (v * w).toNat) _ ?_ ?_ [] (by simp [upto_zero])
  · intro v acc hv hvh hI K
    refine Ev.step (f := fun k => L1 k v 0 acc) (fun k => h0 k v acc hv hvh) ?_
    refine ev_loop (fun k u acc => L1 k v u acc) 0 w hw (fun u acc => acc = upto w g (v * w + u).toNat) _ ?_ ?_ acc (by simpa using hI)
    · intro u acc hu huw hI K
      have hp := row_nonneg hw hu hv
      have hl : (acc.length : Int) = v * w + u := by rw [hI, upto_length]; omega
      refine Ev.step (f := fun k => L1 k v (u + 1) (acc ++ [g u v])) (fun k => h1 k v u acc hv hvh hu huw hl) (K _ ?_)
      have e : (v * w + (u + 1)).toNat = (v * w + u).toNat + 1 := by omega
      rw [e, upto_push (u := u) (v := v) hu huw (by omega), hI]
    · intro acc hI
      refine Ev.step (f := fun k => L0 k (v + 1) acc) (fun k => h2 k v acc hv hvh) (K acc ?_)
      rw [hI, Int.add_mul, Int.one_mul]
  · intro acc hI
    have e : h * w = w * h := Int.mul_comm _ _
    rw [e] at hI
    subst hI
    exact ev_end (fun k => h3 k _)
/-- Two rows compared place by place. -/
theorem ev_equal {α : Type} [DecidableEq α] (d : α) (xs ys : List α) (hl : xs.length = ys.length) (L : Nat → Int → Option Bool)
    (h1 : ∀ k i, 0 ≤ i → i < (xs.length : Int) → xs.getD i.toNat d = ys.getD i.toNat d → L (k + 1) i = L k (i + 1))
    (h2 : ∀ k i, 0 ≤ i → i < (xs.length : Int) → xs.getD i.toNat d ≠ ys.getD i.toNat d → L (k + 1) i = some false)
    (h3 : ∀ k, L (k + 1) xs.length = some true) : Ev (fun k => L k 0) (decide (xs = ys)) := by
  refine ev_loop (fun k i (_ : Unit) => L k i) 0 xs.length (by omega) (fun i _ => ∀ j : Nat, (j : Int) < i → xs.getD j d = ys.getD j d) _ ?_ ?_ () (fun j hj => by omega)
  · intro i s hi hin hI K
    by_cases he : xs.getD i.toNat d = ys.getD i.toNat d
    · refine Ev.step (f := fun k => L k (i + 1)) (fun k => h1 k i hi hin he) (K () (fun j hj => ?_))
      by_cases hji : (j : Int) < i
      · exact hI j hji
      · have : j = i.toNat := by omega
        rw [this]
        exact he
    · have hne : xs ≠ ys := fun hh => he (by rw [hh])
      rw [decide_eq_false hne]
      exact ev_end (fun k => h2 k i hi hin he)
  · intro s hI
    have he : xs = ys := by
      apply List.ext_getElem?
      intro j
      by_cases hj : j < xs.length
      · have := hI j (by omega)
        rw [List.getD_eq_getElem?_getD, List.getD_eq_getElem?_getD, List.getElem?_eq_getElem hj, List.getElem?_eq_getElem (show j < ys.length by omega)] at this
        rw [List.getElem?_eq_getElem hj, List.getElem?_eq_getElem (show j < ys.length by omega)]
        simpa using this
      · rw [List.getElem?_eq_none (by omega), List.getElem?_eq_none (by omega)]
    rw [decide_eq_true he]
    exact ev_end (fun k => h3 k)
theorem getD_splice {α : Type} (xs : List α) (off : Nat) (cs : List α) (d : α) (h : off ≤ xs.length) (j : Nat) : (Go.splice xs off cs).getD j d = if off ≤ j ∧ j < off + cs.length then cs.getD (j - off) d else xs.getD j d := by
  simp only [List.getD_eq_getElem?_getD, getElem?_splice xs off cs h j]
  by_cases h1 : j < off
  · rw [if_pos h1, if_neg (by omega)]
  · rw [if_neg h1]
    by_cases h2 : j < off + cs.length
    · rw [if_pos h2, if_pos (by omega)]
    · rw [if_neg h2, if_neg (by omega)]
theorem getD_replicate {α : Type} (n j : Nat) (d : α) : (List.replicate n d).getD j d = d := by
  simp only [List.getD_eq_getElem?_getD, List.getElem?_replicate]
  split <;> rfl
end Go.Proofs.Ytbipbbckfmilfaa.XPure
