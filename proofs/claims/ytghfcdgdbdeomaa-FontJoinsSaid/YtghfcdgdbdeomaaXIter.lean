/-
Ranges over a string: the iterator lies in memory as an object of its own; what steps it turns nothing else. Conditions: as each theorem says.
-/
import Derived.Test.YtghfcdgdbdeomaaXWords
import Derived.Test.YtghfcdgdbdeomaaWWords
import Derived.Test.YtghfcdgdbdeomaaWLast
import Derived.Test.YtghfcdgdbdeomaaWMore
import Derived.Laws.RangeString
namespace Go.Proofs.Ytghfcdgdbdeomaa.XIter
open Go.RowKit Go.Proofs.YtghfcdgdbdeomaaW.PrintWords Go.Proofs.YtghfcdgdbdeomaaW.PrintLast Go.Proofs.YtghfcdgdbdeomaaW.PrintMore Go.Proofs.Ytghfcdgdbdeomaa.XWords
set_option linter.unusedVariables false
set_option linter.unusedSimpArgs false
/-- The next place, and the rune at this one. -/
def nx (s : ByteArray) (x : Int) : Int := x + ((Utf8.decode s x.toNat).2 : Nat)
def rn (s : ByteArray) (x : Int) : Int := ((Utf8.decode s x.toNat).1 : Nat)
/-- Block g alone may have turned. -/
structure Step (w w' : World) (g : Nat) : Prop where
  os : w'.os = w.os
  tape : w'.tape = w.tape
  output : w'.output = w.output
  size : w'.heap.size = w.heap.size
  block : ∀ k, k ≠ g → w'.heap[k]? = w.heap[k]?
def putIter (w : World) (g : Nat) (o : Obj) : World := { w with heap := w.heap.setIfInBounds g o }
theorem putIter_step (w : World) (g : Nat) (o : Obj) : Step w (putIter w g o) g :=
  ⟨rfl, rfl, rfl, by simp [putIter], fun k hk => by simp [putIter, Array.getElem?_setIfInBounds, Ne.symm hk]⟩
theorem Step.refl (w : World) (g : Nat) : Step w w g := ⟨rfl, rfl, rfl, rfl, fun _ _ => rfl⟩
section
variable {P : Program} {ops : Array Oper} {Q : Exit → Act → World → Prop} {o : Oper} {rest : List Oper} {a : Act}
theorem iter_event {W : World} {t : TypeId} {x : Operand} {s : ByteArray} (hgd : o.guard = none) {N : Tmp} (_hd : o.dst = some N) (ho : o.op = .range t x) (hu : P.underlying t = some .string) (hx : a.eval x = .string s)
    (h : ∀ g, g = W.heap.size → ∀ w1, w1.heap[g]? = some (.stringIter s (0 : Int).toNat) → Below W.heap.size W w1 → wpList P ops Q rest (a.put o.dst (.pointer (some ⟨g, 0, none⟩))) w1) : wpList P ops Q (o :: rest) a W := by
  refine Kd.event_run (w1 := W.alloc (.stringIter s 0)) (v := .pointer (some ⟨W.heap.size, 0, none⟩)) hgd ?_ (h _ rfl _ (blk_new W _) (below_alloc (Below.refl _ _) _))
  have e := run_range_string (P := P) W t s hu
  simp only [execOp, ho, hx, Sem.run_bind, e, Result.andThen, Sem.run, World.iter]
  rfl
theorem run_next_some {W : World} {g : Nat} {s : ByteArray} {p : Nat} (hb : W.heap[g]? = some (.stringIter s p)) (hp : p < s.size) (ty : TypeId) :
    (Instr.next (.pointer (some ⟨g, 0, none⟩)) true ty).run P W = .ok (.tuple #[.bool true, .int .i64 p, .int .i32 ((Utf8.decode s p).1 : Nat)]) (putIter W g (.stringIter s (p + (Utf8.decode s p).2))) := by
  simp only [Instr.next, getObj, setObj, Sem.run_bind, Sem.run, hb, Result.andThen, hp, if_true]
  simp [goInt, Sem.run, hb, putIter]
theorem run_next_none {W : World} {g : Nat} {s : ByteArray} {p : Nat} (hb : W.heap[g]? = some (.stringIter s p)) (hp : ¬ p < s.size) (ty : TypeId) :
    (Instr.next (.pointer (some ⟨g, 0, none⟩)) true ty).run P W = .ok (.tuple #[.bool false]) W := by
  simp [Instr.next, getObj, Sem.run, hb, hp]
theorem next_some {W : World} {g : Nat} {i : Operand} {s : ByteArray} {x : Int} (hgd : o.guard = none) {N : Tmp} (_hd : o.dst = some N) (ho : o.op = .next i true) (hi : a.eval i = .pointer (some ⟨g, 0, none⟩)) (hb : W.heap[g]? = some (.stringIter s x.toNat)) (h0 : 0 ≤ x) (h1 : x < s.size)
    (h : ∀ w1, Step W w1 g → w1.heap[g]? = some (.stringIter s (nx s x).toNat) → wpList P ops Q rest (a.put o.dst (.tuple #[.bool true, .int .i64 x, .int .i32 (rn s x)])) w1) : wpList P ops Q (o :: rest) a W := by
  have e := run_next_some (P := P) hb (show x.toNat < s.size by omega) o.type
  have e2 : (nx s x).toNat = x.toNat + (Utf8.decode s x.toNat).2 := by unfold nx; omega
  have e3 : ((x.toNat : Nat) : Int) = x := by omega
  refine Kd.event_run (w1 := putIter W g (.stringIter s (x.toNat + (Utf8.decode s x.toNat).2))) (v := .tuple #[.bool true, .int .i64 x, .int .i32 (rn s x)]) hgd ?_ (h _ (putIter_step _ _ _) ?_)
  · simp only [execOp, ho, hi, Sem.run_bind, e, Result.andThen, Sem.run, e3, rn]
    rfl
  · rw [e2]
    have := blk_lt hb
    simp [putIter, this]
theorem next_none {W : World} {g : Nat} {i : Operand} {s : ByteArray} {x : Int} (hgd : o.guard = none) {N : Tmp} (_hd : o.dst = some N) (ho : o.op = .next i true) (hi : a.eval i = .pointer (some ⟨g, 0, none⟩)) (hb : W.heap[g]? = some (.stringIter s x.toNat)) (h0 : 0 ≤ x) (h1 : ¬ x < s.size)
    (h : ∀ w1, Step W w1 g → w1.heap[g]? = some (.stringIter s x.toNat) → wpList P ops Q rest (a.put o.dst (.tuple #[.bool false])) w1) : wpList P ops Q (o :: rest) a W := by
  have e := run_next_none (P := P) hb (show ¬ x.toNat < s.size by omega) o.type
  refine Kd.event_run (w1 := W) (v := .tuple #[.bool false]) hgd ?_ (h _ (Step.refl _ _) hb)
  simp only [execOp, ho, hi, Sem.run_bind, e, Result.andThen, Sem.run]
  rfl
end
section
variable {w w' : World} {g p : Nat} {s : ByteArray}
theorem ne_cells {k t : Nat} {cs : Array Value} (hc : w.heap[k]? = some (.cells cs t (0, 0))) (hb : w.heap[g]? = some (.stringIter s p)) : k ≠ g := by
  rintro rfl
  rw [hc] at hb
  injection hb with hb
  cases hb
theorem blk_it {k t : Nat} {cs : Array Value} (hc : w.heap[k]? = some (.cells cs t (0, 0))) (hb : w.heap[g]? = some (.stringIter s p)) (h : Step w w' g) : w'.heap[k]? = some (.cells cs t (0, 0)) := (h.block k (ne_cells hc hb)).trans hc
theorem below_it {w0 : World} {n : Nat} (hB : Below n w0 w) (hg : n ≤ g) (h : Step w w' g) : Below n w0 w' := ⟨h.os.trans hB.os, h.tape.trans hB.tape, h.output.trans hB.output, Nat.le_trans hB.size (Nat.le_of_eq h.size.symm), fun k hk => (h.block k (by omega)).trans (hB.block k hk)⟩
theorem R_it {α : Type} {d : Kd α} {e base : Nat} {ok : Nat → Prop} {v : Value} {xs : List α} (hR : d.R e w base ok v xs) (hb : w.heap[g]? = some (.stringIter s p)) (h : Step w w' g) : d.R e w' base ok v xs :=
  Kd.R_mono (Kd.R_move (Kd.R_bound hR) (fun k hk => by
    obtain ⟨_, _, _, q, _, cells, hc⟩ := hk
    exact h.block k (ne_cells hc hb))) (fun _ hk => hk.1)
theorem R_ne_it {α : Type} {d : Kd α} {e base : Nat} {ok : Nat → Prop} {v : Value} {xs : List α} (hR : d.R e w base ok v xs) (hb : w.heap[g]? = some (.stringIter s p)) : some g ≠ v.ownBlock := fun e => by
  obtain ⟨cells, hc⟩ := Kd.R_typed hR g e.symm
  exact ne_cells hc hb rfl
theorem R_types_it {α : Type} {d : Kd α} {e base : Nat} {ok : Nat → Prop} {v : Value} {xs : List α} (hR : d.R e w base ok v xs) (hb : w.heap[g]? = some (.stringIter s p)) : d.R e w base (fun k => ok k ∧ k ≠ g) v xs :=
  Kd.R_mono (Kd.R_bound hR) (fun k hk => ⟨hk.1, by
    obtain ⟨_, _, _, q, _, cells, hc⟩ := hk
    exact ne_cells hc hb⟩)
theorem it_far {i : Nat} {u : Value} {k : Nat} (hb : w.heap[g]? = some (.stringIter s p)) (hne : g ≠ k) : (w.setCell ⟨k, i, none⟩ u).heap[g]? = some (.stringIter s p) := (Below.heap_setCell w ⟨k, i, none⟩ u g hne).trans hb
end
end Go.Proofs.Ytghfcdgdbdeomaa.XIter
