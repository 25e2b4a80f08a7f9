/-
Words for walks; what this claim does not need is left out. Conditions: as each theorem says.
-/
import Derived.Test.YtcmcmoaikabfoaaWWords
import Derived.Test.YtcmcmoaikabfoaaWMore
import Derived.Test.YtcmcmoaikabfoaaXWords
import Derived.IntWalk
namespace Go.Proofs.Ytcmcmoaikabfoaa.XPure
set_option linter.unusedVariables false
open Go.RowKit Go.Proofs.YtcmcmoaikabfoaaW.PrintWords Go.Proofs.YtcmcmoaikabfoaaW.PrintMore Go.Proofs.Ytcmcmoaikabfoaa.XWords
theorem w64 {n : Int} (h : -9223372036854775808 ≤ n ∧ n ≤ 9223372036854775807) : wrap64 n = n := Go.IntWalk.wrap64_in n h
theorem wf_u16 {n : Int} (h : (Lit.int .u16 n).wf = true) : 0 ≤ n ∧ n ≤ 65535 := by
  have h1 : IntKind.u16.min = 0 := rfl
  have h2 : IntKind.u16.max = 65535 := rfl
  simp [Lit.wf] at h
  omega
/-- A loop from a to b with an invariant. -/
theorem ev_loop {σ β : Type} (L : Nat → Int → σ → Option β) (a b : Int) (hab : a ≤ b) (Inv : Int → σ → Prop) (r : β)
    (hstep : ∀ i s, a ≤ i → i < b → Inv i s → (∀ s', Inv (i + 1) s' → Ev (fun k => L k (i + 1) s') r) → Ev (fun k => L k i s) r)
    (hend : ∀ s, Inv b s → Ev (fun k => L k b s) r) (s0 : σ) (h0 : Inv a s0) : Ev (fun k => L k a s0) r := by
  have key : ∀ (n : Nat) (i : Int) (s : σ), a ≤ i → (n : Int) = b - i → Inv i s → Ev (fun k => L k i s) r := by
    intro n
    induction n with
    | zero =>
      intro i s hi hn hI
      have : i = b := by omega
      subst this
      exact hend s hI
    | succ n ih =>
      intro i s hi hn hI
      exact hstep i s hi (by omega) hI (fun s' hs' => ih (i + 1) s' (by omega) (by omega) hs')
  exact key (b - a).toNat a s0 (Int.le_refl _) (by omega) h0
/-- One round gives the answer. -/
theorem ev_end {β : Type} {g : Nat → Option β} {r : β} (h : ∀ k, g (k + 1) = some r) : Ev g r := Ev.step (f := fun _ => some r) h (Ev.now r)
/-! ### Tables -/
/-- The first n places of a table of w columns. -/
def upto {α : Type} (w : Int) (g : Int → Int → α) (n : Nat) : List α := (List.range n).map fun i : Nat => g ((i : Int) % w) ((i : Int) / w)
theorem row_mod {w u v : Int} (h0 : 0 ≤ u) (h1 : u < w) : (v * w + u) % w = u := by
  rw [Int.add_comm, Int.add_mul_emod_self_right]
  exact Int.emod_eq_of_lt h0 h1
theorem row_div {w u v : Int} (h0 : 0 ≤ u) (h1 : u < w) : (v * w + u) / w = v := by
  rw [Int.add_comm, Int.add_mul_ediv_right _ _ (by omega), Int.ediv_eq_zero_of_lt h0 h1]
  omega
theorem row_lt {w h u v : Int} (hu : u < w) (h0 : 0 ≤ u) (hv : v < h) (hv0 : 0 ≤ v) : v * w + u < w * h := by
  have h1 : (v + 1) * w ≤ h * w := Int.mul_le_mul_of_nonneg_right (by omega) (by omega)
  rw [Int.add_mul, Int.one_mul] at h1
  rw [Int.mul_comm w h]
  omega
theorem mod_div {w : Int} (hw : 0 < w) (i : Int) : i / w * w + i % w = i := by
  rw [Int.mul_comm]; exact Int.mul_ediv_add_emod i w
theorem div_lt {w h i : Int} (hw : 0 < w) (hi : i < w * h) : i / w < h := Int.ediv_lt_of_lt_mul hw (by rw [Int.mul_comm]; exact hi)
end Go.Proofs.Ytcmcmoaikabfoaa.XPure
