/-
Words for walks; what this claim does not need is left out. Conditions: as each theorem says.
-/
import Derived.Test.YtbipbbckfmilfaaXWords
import Derived.Test.YtbipbbckfmilfaaWWords
import Derived.Test.YtbipbbckfmilfaaWLast
import Derived.Test.YtbipbbckfmilfaaWMore
import Derived.Test.YtbipbbckfmilfaaWTab
namespace Go.Proofs.Ytbipbbckfmilfaa.XShort
open Go.RowKit Go.Proofs.YtbipbbckfmilfaaW.PrintWords Go.Proofs.YtbipbbckfmilfaaW.PrintLast Go.Proofs.YtbipbbckfmilfaaW.PrintMore Go.Proofs.Ytbipbbckfmilfaa.XWords
set_option linter.unusedVariables false
theorem bkt {p q : Prop} (h : q) (f : q → p := by intro h_; (with_reducible repeat (first | refine blk_drewN ?_ _ | refine blk_drew ?_ | refine blk_alloc ?_ _)); exact h_) : p := f h
theorem bkx {p q : Prop} (h : Aside0 q) (f : q → p := by intro h_; (with_reducible repeat (first | refine blk_drewN ?_ _ | refine blk_drew ?_ | refine blk_alloc ?_ _)); exact h_) : p := f h.out
theorem bky {p q r : Prop} (h : Aside0 q) (n : Aside0 r) (f : q → r → p := by intro h_ n_; (repeat (first | (with_reducible first | refine blk_drewN ?_ _ | refine blk_drew ?_ | refine blk_alloc ?_ _) | refine blk_far ?_ n_ _)); exact h_) : p := f h.out n.out
theorem nel {a b : Nat} {o : Obj} {q : Prop} {W : World} (hg : b = W.heap.size) (h : Aside0 q) (f : q → W.heap[a]? = some o := by intro h_; (with_reducible repeat (first | refine blk_drewN ?_ _ | refine blk_drew ?_ | refine blk_alloc ?_ _)); exact h_) : a ≠ b := by rw [hg]; exact Nat.ne_of_lt (blk_lt (f h.out))
theorem neg {a b : Nat} {o : Obj} {q : Prop} {W : World} (hg : b = W.heap.size) (h : Aside0 q) (f : q → W.heap[a]? = some o := by intro h_; (with_reducible repeat (first | refine blk_drewN ?_ _ | refine blk_drew ?_ | refine blk_alloc ?_ _)); exact h_) : b ≠ a := by rw [hg]; exact Nat.ne_of_gt (blk_lt (f h.out))
theorem rkt {p q : Prop} (h : q) (f : q → p := by intro h_; (with_reducible repeat (first | apply Kd.R_alloc | apply Kd.R_drewN | apply Kd.R_drew)); exact h_) : p := f h
theorem rkx {p q : Prop} (h : Aside0 q) (f : q → p := by intro h_; (with_reducible repeat (first | apply Kd.R_alloc | apply Kd.R_drewN | apply Kd.R_drew)); exact h_) : p := f h.out
theorem far3 {α : Type} {d : Kd α} {W : World} {e base g t : Nat} {ok : Nat → Prop} {v : Value} {xs : List α} {cells : Array Value} (h : Aside0 (d.R e W base ok v xs)) (hb : Aside0 (W.heap[g]? = some (.cells cells t (0, 0)))) {i0 i1 i2 : Nat} {a0 a1 a2 : Value} (ht : ∀ q, q ∈ e :: d.E → q ≠ t := by decide) : d.R e (((W.setCell ⟨g, i0, none⟩ a0).setCell ⟨g, i1, none⟩ a1).setCell ⟨g, i2, none⟩ a2) base ok v xs := Kd.R_mono (Kd.R_far (p := ⟨g, i2, none⟩) (Kd.R_far (p := ⟨g, i1, none⟩) (Kd.R_far (p := ⟨g, i0, none⟩) (Kd.R_types h.out hb.out ht) (fun _ hk => hk.2) a0) (fun _ hk => hk.2) a1) (fun _ hk => hk.2) a2) (fun _ h_ => h_.1)
section
variable {P : Program} {ops : Array Oper} {Q : Exit → Act → World → Prop} {md : Region.Mode} {S : World → Prop} {ds : List Nat} {T : Bool × List (List Nat × List Nat)}
def bA (n m : Nat) : Array Bool := ((List.range n).map (fun i => m.testBit i)).toArray
/-- pure_, by the table, with the usual tactics. -/
theorem pt {fuel : Nat} {l : Array Bool} {a a' : Act} {w : World} {oi : Oper} {v : Value} (hT : Aside0 (rtab md ops = T)) (i n : Nat)
    (h : wpAnyLast P md ops Q S ds fuel (l.setIfInBounds i true) a' w)
    (hi : ops[i]? = some oi := by exact rfl) (hN : oi.dst = some n := by exact rfl)
    (hc : anyT T l.toList (l.setIfInBounds i true).toList i = true := by kernel_rfl)
    (hq : ∀ c a w, Q (.panic c) (a.put oi.dst v) w → Q (.panic c) a w := by exact fun _ _ _ h => h)
    (hw : Region.wanted oi (yielded ops a.tmps) = true := by rfl)
    (hv : ∀ w, (execOp a.eval oi).run P w = .ok (.value v) w := by intro w'; go_simp; with_reducible rfl)
    (ha : a.put (some n) v = a' := by (simp only [Act.put, List.setIfInBounds_toArray, List.set_cons_zero, List.set_cons_succ, i64_w, i32_w]); rfl) :
    wpAnyLast P md ops Q S ds (fuel + 1) l a w := pure_ (l.setIfInBounds i true) hi hN (any_of hT.out hc) hq (Or.inl ⟨hw, hv⟩) ha h
/-- take_, by the table and the bits, with the usual tactics. -/
theorem tk {fuel : Nat} {l : Array Bool} {a a' : Act} {w : World} {oi : Oper} {v : Value} {B : List Nat} (hT : Aside0 (rtab md ops = T)) (hB : Aside0 (waitsOk T.2 B = true)) (hS : S w) (i n : Nat)
    (h : wpAnyLast P md ops Q S ds fuel (l.setIfInBounds i true) a' w)
    (hi : ops[i]? = some oi := by exact rfl) (hN : oi.dst = some n := by exact rfl)
    (hc : takeW T B ds l.toList (l.setIfInBounds i true).toList i = true := by kernel_rfl)
    (hq : ∀ c a w, Q (.panic c) (a.put oi.dst v) w → Q (.panic c) a w := by exact fun _ _ _ h => h)
    (hw : Region.wanted oi (yielded ops a.tmps) = true := by rfl)
    (hv : ∀ w, S w → (execOp a.eval oi).run P w = .ok (.value v) w := by intro w' hs_; (repeat (obtain ⟨s_, hs_⟩ := hs_)); go_simp; with_reducible rfl)
    (ha : a.put (some n) v = a' := by (simp only [Act.put, List.setIfInBounds_toArray, List.set_cons_zero, List.set_cons_succ, i64_w, i32_w]); rfl) :
    wpAnyLast P md ops Q S ds (fuel + 1) l a w := take_ (l.setIfInBounds i true) hi hN (take_ofW hT.out hB.out hc) hq (Or.inl ⟨hw, hv⟩) hS ha h
end
theorem mapx {p : Prop} (h : p := by (try simp only [List.map_toArray, List.map_cons, List.map_nil]); first | done | rfl | (simp only [List.length_drop, List.length_take]; rfl)) : p := h
theorem hb0 {p q : Prop} (h : Aside0 q) (f : q → p := by intro h_; repeat (first | (with_reducible first | exact h_ | apply below_alloc | apply pw_below_drewN | apply below_drew1) | exact h_)) : p := f h.out
theorem hb1 {p q g0 : Prop} (h : Aside0 q) (hg0 : Aside0 g0) (f : q → g0 → p := by intro h_ g0_; repeat (first | (with_reducible first | exact h_ | apply below_alloc | apply pw_below_drewN | apply below_drew1 | refine below_set ?_ g0_) | exact h_)) : p := f h.out hg0.out
theorem hb2 {p q g0 g1 : Prop} (h : Aside0 q) (hg0 : Aside0 g0) (hg1 : Aside0 g1) (f : q → g0 → g1 → p := by intro h_ g0_ g1_; repeat (first | (with_reducible first | exact h_ | apply below_alloc | apply pw_below_drewN | apply below_drew1 | refine below_set ?_ g0_ | refine below_set ?_ g1_) | exact h_)) : p := f h.out hg0.out hg1.out
theorem hb3 {p q g0 g1 g2 : Prop} (h : Aside0 q) (hg0 : Aside0 g0) (hg1 : Aside0 g1) (hg2 : Aside0 g2) (f : q → g0 → g1 → g2 → p := by intro h_ g0_ g1_ g2_; repeat (first | (with_reducible first | exact h_ | apply below_alloc | apply pw_below_drewN | apply below_drew1 | refine below_set ?_ g0_ | refine below_set ?_ g1_ | refine below_set ?_ g2_) | exact h_)) : p := f h.out hg0.out hg1.out hg2.out
theorem hb4 {p q g0 g1 g2 g3 : Prop} (h : Aside0 q) (hg0 : Aside0 g0) (hg1 : Aside0 g1) (hg2 : Aside0 g2) (hg3 : Aside0 g3) (f : q → g0 → g1 → g2 → g3 → p := by intro h_ g0_ g1_ g2_ g3_; repeat (first | (with_reducible first | exact h_ | apply below_alloc | apply pw_below_drewN | apply below_drew1 | refine below_set ?_ g0_ | refine below_set ?_ g1_ | refine below_set ?_ g2_ | refine below_set ?_ g3_) | exact h_)) : p := f h.out hg0.out hg1.out hg2.out hg3.out
theorem hb5 {p q g0 g1 g2 g3 g4 : Prop} (h : Aside0 q) (hg0 : Aside0 g0) (hg1 : Aside0 g1) (hg2 : Aside0 g2) (hg3 : Aside0 g3) (hg4 : Aside0 g4) (f : q → g0 → g1 → g2 → g3 → g4 → p := by intro h_ g0_ g1_ g2_ g3_ g4_; repeat (first | (with_reducible first | exact h_ | apply below_alloc | apply pw_below_drewN | apply below_drew1 | refine below_set ?_ g0_ | refine below_set ?_ g1_ | refine below_set ?_ g2_ | refine below_set ?_ g3_ | refine below_set ?_ g4_) | exact h_)) : p := f h.out hg0.out hg1.out hg2.out hg3.out hg4.out
theorem hb6 {p q g0 g1 g2 g3 g4 g5 : Prop} (h : Aside0 q) (hg0 : Aside0 g0) (hg1 : Aside0 g1) (hg2 : Aside0 g2) (hg3 : Aside0 g3) (hg4 : Aside0 g4) (hg5 : Aside0 g5) (f : q → g0 → g1 → g2 → g3 → g4 → g5 → p := by intro h_ g0_ g1_ g2_ g3_ g4_ g5_; repeat (first | (with_reducible first | exact h_ | apply below_alloc | apply pw_below_drewN | apply below_drew1 | refine below_set ?_ g0_ | refine below_set ?_ g1_ | refine below_set ?_ g2_ | refine below_set ?_ g3_ | refine below_set ?_ g4_ | refine below_set ?_ g5_) | exact h_)) : p := f h.out hg0.out hg1.out hg2.out hg3.out hg4.out hg5.out
theorem hb7 {p q g0 g1 g2 g3 g4 g5 g6 : Prop} (h : Aside0 q) (hg0 : Aside0 g0) (hg1 : Aside0 g1) (hg2 : Aside0 g2) (hg3 : Aside0 g3) (hg4 : Aside0 g4) (hg5 : Aside0 g5) (hg6 : Aside0 g6) (f : q → g0 → g1 → g2 → g3 → g4 → g5 → g6 → p := by intro h_ g0_ g1_ g2_ g3_ g4_ g5_ g6_; repeat (first | (with_reducible first | exact h_ | apply below_alloc | apply pw_below_drewN | apply below_drew1 | refine below_set ?_ g0_ | refine below_set ?_ g1_ | refine below_set ?_ g2_ | refine below_set ?_ g3_ | refine below_set ?_ g4_ | refine below_set ?_ g5_ | refine below_set ?_ g6_) | exact h_)) : p := f h.out hg0.out hg1.out hg2.out hg3.out hg4.out hg5.out hg6.out
end Go.Proofs.Ytbipbbckfmilfaa.XShort
