-- Written by this session's own program (myprint.py).
import Derived.Test.YtkakiblnhgpdnaaPRx0
import Derived.Test.YtkakiblnhgpdnaaPRx9
import Derived.Test.YtkakiblnhgpdnaaPRx19
import Derived.Test.YtkakiblnhgpdnaaPRx26
namespace Go.Proofs.Ytkakiblnhgpdnaa.PR
open Go.RowKit Go.Proofs.YtkakiblnhgpdnaaW.PrintWords Go.Proofs.YtkakiblnhgpdnaaW.PrintLast Go.Proofs.YtkakiblnhgpdnaaW.PrintMore Go.Proofs.Ytkakiblnhgpdnaa.XWords Go.Proofs.Ytkakiblnhgpdnaa.XShort Go.Proofs.Ytkakiblnhgpdnaa.XFn
attribute [local go_sem] max2_int min2_int max_two min_two max_three min_three max_four min_four   -- for this text's walks alone
set_option linter.unusedVariables false
set_option linter.unusedSimpArgs false

/-! ### barscanlaw37_MorphologyMonotony: function 9 -/
mutual
def barscanlaw37_MorphologyMonotony.l0 : Nat → Int → Int → List Int → Int → Int → Int → Int → List Bool → Int → Int → List Bool → Option (Bool)
 | 0, _, _, _, _, _, _, _, _, _, _, _ => none
 | k + 1, x2, x3, x40, x41, x42, x701000, x701001, x701002, x711000, x711001, x711002 => if x42 < x41 then (if 0 ≤ x42 then (if x42 < (x40.length : Int) then (if (x711002.length : Int) = 0 then (none) else (if 0 ≤ (Int.tmod (wrap64 (rd x40 x42)) (x711002.length : Int)) then (if (Int.tmod (wrap64 (rd x40 x42)) (x711002.length : Int)) < (x711002.length : Int) then (barscanlaw37_MorphologyMonotony.l0 k x2 x3 x40 x41 (wrap64 (x42 + 1)) x701000 x701001 x701002 x711000 x711001 (x711002.set ((Int.tmod (wrap64 (rd x40 x42)) (x711002.length : Int)) : Int).toNat true)) else (none)) else (none))) else (none)) else (none)) else ((barscanlaw37_operations.f k x701000 x701001 x701002 x2 x3).bind fun t713 => ((barscanlaw37_operations.f k x711000 x711001 x711002 x2 x3).bind fun t716 => (barscanlaw37_MorphologyMonotony.l1 k t713 t716 (t713.length : Int) 0)))
def barscanlaw37_MorphologyMonotony.l1 : Nat → List (S24) → List (S24) → Int → Int → Option (Bool)
 | 0, _, _, _, _ => none
 | k + 1, x12, x13, x65, x66 => if x66 < x65 then (if 0 ≤ x66 then (if x66 < (x12.length : Int) then (if x66 < (x13.length : Int) then ((barscanlaw37_within.f k ((rd_T24 x12 x66).f0) ((rd_T24 x12 x66).f1) ((rd_T24 x12 x66).f2) ((rd_T24 x13 x66).f0) ((rd_T24 x13 x66).f1) ((rd_T24 x13 x66).f2)).bind fun t721 => (if t721 = true then (barscanlaw37_MorphologyMonotony.l1 k x12 x13 x65 (wrap64 (x66 + 1))) else (none))) else (none)) else (none)) else (none)) else ((barscanlaw37_examples.f k).bind fun t722 => (some t722))
end
def barscanlaw37_MorphologyMonotony.f (k : Nat) (a0_0 : Int) (a0_1 : Int) (l0_2 : List Bool) (l1 : List Int) (a2 : Int) (a3 : Int) : Option (Bool) := if (l0_2.length : Int) > 1000 then ((barscanlaw37_examples.f k).bind fun t701 => (some t701)) else (if (l0_2.length : Int) = 0 then ((barscanlaw37_examples.f k).bind fun t702 => (some t702)) else (if (l1.length : Int) > 100 then ((barscanlaw37_examples.f k).bind fun t703 => (some t703)) else ((some (([] : List Bool) : List Bool)).bind fun y704 => (if y704.length + l0_2.length < 140737488355328 then (barscanlaw37_MorphologyMonotony.l0 k a2 a3 l1 (l1.length : Int) 0 a0_0 a0_1 l0_2 a0_0 a0_1 (y704 ++ l0_2)) else (none)))))
theorem barscanlaw37_MorphologyMonotony.mono_l : ∀ k, (∀ y0 y1 y2 y3 y4 y5 y6 y7 y8 y9 y10, LeO (barscanlaw37_MorphologyMonotony.l0 k y0 y1 y2 y3 y4 y5 y6 y7 y8 y9 y10) (barscanlaw37_MorphologyMonotony.l0 (k + 1) y0 y1 y2 y3 y4 y5 y6 y7 y8 y9 y10)) ∧ (∀ y0 y1 y2 y3, LeO (barscanlaw37_MorphologyMonotony.l1 k y0 y1 y2 y3) (barscanlaw37_MorphologyMonotony.l1 (k + 1) y0 y1 y2 y3))
 | 0 => ⟨fun _ _ _ _ _ _ _ _ _ _ _ r h => by simp [barscanlaw37_MorphologyMonotony.l0] at h, fun _ _ _ _ r h => by simp [barscanlaw37_MorphologyMonotony.l1] at h⟩
 | k + 1 => by
  obtain ⟨ih0, ih1⟩ := barscanlaw37_MorphologyMonotony.mono_l k
  refine ⟨?_, ?_⟩
  ·intro y0 y1 y2 y3 y4 y5 y6 y7 y8 y9 y10
   unfold barscanlaw37_MorphologyMonotony.l0
   repeat' first
   | (with_reducible exact ih0 _ _ _ _ _ _ _ _ _ _ _)
   | (with_reducible exact ih1 _ _ _ _)
   | (with_reducible exact barscanlaw37_examples.mono _)
   | (with_reducible exact barscanlaw37_operations.mono _ _ _ _ _ _)
   | (with_reducible exact barscanlaw37_within.mono _ _ _ _ _ _ _)
   | (with_reducible exact LeO.refl _)
   | (with_reducible exact LeO.none _)
   | (with_reducible refine LeO.ite ?_ ?_)
   | (with_reducible refine LeO.bind ?_ (fun _ => ?_))
   | exact ih0 _ _ _ _ _ _ _ _ _ _ _
   | exact ih1 _ _ _ _
   | exact barscanlaw37_examples.mono _
   | exact barscanlaw37_operations.mono _ _ _ _ _ _
   | exact barscanlaw37_within.mono _ _ _ _ _ _ _
   | exact LeO.none _
   | refine LeO.ite ?_ ?_
   | refine LeO.bind ?_ (fun _ => ?_)
  ·intro y0 y1 y2 y3
   unfold barscanlaw37_MorphologyMonotony.l1
   repeat' first
   | (with_reducible exact ih0 _ _ _ _ _ _ _ _ _ _ _)
   | (with_reducible exact ih1 _ _ _ _)
   | (with_reducible exact barscanlaw37_examples.mono _)
   | (with_reducible exact barscanlaw37_operations.mono _ _ _ _ _ _)
   | (with_reducible exact barscanlaw37_within.mono _ _ _ _ _ _ _)
   | (with_reducible exact LeO.refl _)
   | (with_reducible exact LeO.none _)
   | (with_reducible refine LeO.ite ?_ ?_)
   | (with_reducible refine LeO.bind ?_ (fun _ => ?_))
   | exact ih0 _ _ _ _ _ _ _ _ _ _ _
   | exact ih1 _ _ _ _
   | exact barscanlaw37_examples.mono _
   | exact barscanlaw37_operations.mono _ _ _ _ _ _
   | exact barscanlaw37_within.mono _ _ _ _ _ _ _
   | exact LeO.none _
   | refine LeO.ite ?_ ?_
   | refine LeO.bind ?_ (fun _ => ?_)
theorem barscanlaw37_MorphologyMonotony.mono : ∀ a0 a1 a2 a3 a4 a5 k, LeO (barscanlaw37_MorphologyMonotony.f k a0 a1 a2 a3 a4 a5) (barscanlaw37_MorphologyMonotony.f (k + 1) a0 a1 a2 a3 a4 a5) := by
 intro a0 a1 a2 a3 a4 a5 k
 obtain ⟨ih0, ih1⟩ := barscanlaw37_MorphologyMonotony.mono_l k
 unfold barscanlaw37_MorphologyMonotony.f
 repeat' first
   | (with_reducible exact ih0 _ _ _ _ _ _ _ _ _ _ _)
   | (with_reducible exact ih1 _ _ _ _)
   | (with_reducible exact barscanlaw37_examples.mono _)
   | (with_reducible exact barscanlaw37_operations.mono _ _ _ _ _ _)
   | (with_reducible exact barscanlaw37_within.mono _ _ _ _ _ _ _)
   | (with_reducible exact LeO.refl _)
   | (with_reducible exact LeO.none _)
   | (with_reducible refine LeO.ite ?_ ?_)
   | (with_reducible refine LeO.bind ?_ (fun _ => ?_))
   | exact ih0 _ _ _ _ _ _ _ _ _ _ _
   | exact ih1 _ _ _ _
   | exact barscanlaw37_examples.mono _
   | exact barscanlaw37_operations.mono _ _ _ _ _ _
   | exact barscanlaw37_within.mono _ _ _ _ _ _ _
   | exact LeO.none _
   | refine LeO.ite ?_ ?_
   | refine LeO.bind ?_ (fun _ => ?_)
def barscanlaw37_MorphologyMonotony.T3 : Bool × List (List Nat × List Nat) := (true, [([], []), ([0], [0]), ([], []), ([2], [2]), ([], []), ([], []), ([5], [5]), ([4, 6], [4, 6]), ([1, 3, 7], [1, 3, 7]), ([], []), ([9, 8, 7, 0, 1, 2, 3, 4, 5, 6, 7, 8, 9], [8, 9])])
def barscanlaw37_MorphologyMonotony.B3 : List Nat := [0, 1, 0, 4, 0, 0, 32, 112, 255, 0, 1023]
theorem barscanlaw37_MorphologyMonotony.tab3 : rtab .any (opsOf Try.f9 3) = barscanlaw37_MorphologyMonotony.T3 := by kernel_rfl
theorem barscanlaw37_MorphologyMonotony.bits3 : waitsOk barscanlaw37_MorphologyMonotony.T3.2 barscanlaw37_MorphologyMonotony.B3 = true := by kernel_rfl
def barscanlaw37_MorphologyMonotony.T7 : Bool × List (List Nat × List Nat) := (true, [([], []), ([0], [0]), ([], []), ([2], [2]), ([], []), ([4], [4]), ([5], [5]), ([3, 6], [3, 6]), ([1, 7, 0, 1, 2, 3, 4, 5, 6, 7], [1, 7]), ([8, 0, 1, 2, 3, 4, 5, 6, 7], [8])])
def barscanlaw37_MorphologyMonotony.B7 : List Nat := [0, 1, 0, 4, 0, 16, 48, 124, 255, 511]
theorem barscanlaw37_MorphologyMonotony.tab7 : rtab .any (opsOf Try.f9 7) = barscanlaw37_MorphologyMonotony.T7 := by kernel_rfl
theorem barscanlaw37_MorphologyMonotony.bits7 : waitsOk barscanlaw37_MorphologyMonotony.T7.2 barscanlaw37_MorphologyMonotony.B7 = true := by kernel_rfl
def barscanlaw37_MorphologyMonotony.T9 : Bool × List (List Nat × List Nat) := (true, [([], []), ([], []), ([], []), ([0, 1, 2], [0, 1, 2]), ([], []), ([], []), ([], []), ([4, 5, 6, 3], [4, 5, 6]), ([3, 7, 0, 1, 2, 3], [3]), ([7, 8, 0, 1, 2, 3, 4, 5, 6, 7, 8], [7])])
def barscanlaw37_MorphologyMonotony.B9 : List Nat := [0, 0, 0, 7, 0, 0, 0, 127, 255, 511]
theorem barscanlaw37_MorphologyMonotony.tab9 : rtab .any (opsOf Try.f9 9) = barscanlaw37_MorphologyMonotony.T9 := by kernel_rfl
theorem barscanlaw37_MorphologyMonotony.bits9 : waitsOk barscanlaw37_MorphologyMonotony.T9.2 barscanlaw37_MorphologyMonotony.B9 = true := by kernel_rfl
def barscanlaw37_MorphologyMonotony.T13 : Bool × List (List Nat × List Nat) := (true, [([], []), ([], []), ([0, 1], [0, 1]), ([2], [2]), ([], []), ([], []), ([4, 5], [4, 5]), ([6], [6]), ([3, 7], [3, 7]), ([8], [8])])
def barscanlaw37_MorphologyMonotony.B13 : List Nat := [0, 0, 3, 7, 0, 0, 48, 112, 255, 511]
theorem barscanlaw37_MorphologyMonotony.tab13 : rtab .any (opsOf Try.f9 13) = barscanlaw37_MorphologyMonotony.T13 := by kernel_rfl
theorem barscanlaw37_MorphologyMonotony.bits13 : waitsOk barscanlaw37_MorphologyMonotony.T13.2 barscanlaw37_MorphologyMonotony.B13 = true := by kernel_rfl
set_option maxHeartbeats 8000000 in
set_option maxRecDepth 100000 in
theorem barscanlaw37_MorphologyMonotony.calls (k : Nat) (a0_0 : Int) (a0_1 : Int) (A0_2 : Option Addr) (c0_2 : Nat) (l0_2 : List Bool) (A1 : Option Addr) (c1 : Nat) (l1 : List Int) (a2 : Int) (a3 : Int) (r : Bool) (w : World) (hr0_2 : Kd.C Kd.bool w A0_2 l0_2.length l0_2) (hc0_2 : l0_2.length ≤ c0_2) (hr1 : Kd.C (Kd.int .u16) w A1 l1.length l1) (hc1 : l1.length ≤ c1) (h : barscanlaw37_MorphologyMonotony.f k a0_0 a0_1 l0_2 l1 a2 a3 = some r) :
  Calls Try.prog 9 #[.agg #[.int .i64 a0_0, .int .i64 a0_1, .slice A0_2 l0_2.length c0_2], .slice A1 l1.length c1, .int .i64 a2, .int .i64 a3] w fun e w' => e = .returned (.bool r) ∧ Below w.heap.size w w' := by
 have hu24 := Try.underlying24
 have HR0_2 := Aside0.mk hr0_2
 have HC0_2 := Aside0.mk hc0_2
 clear hr0_2 hc0_2
 have HR1 := Aside0.mk hr1
 have HC1 := Aside0.mk hc1
 clear hr1 hc1
 have HB := Aside0.mk (Below.refl w.heap.size w)
 have H : (if (l0_2.length : Int) > 1000 then ((barscanlaw37_examples.f k).bind fun t701 => (some t701)) else (if (l0_2.length : Int) = 0 then ((barscanlaw37_examples.f k).bind fun t702 => (some t702)) else (if (l1.length : Int) > 100 then ((barscanlaw37_examples.f k).bind fun t703 => (some t703)) else ((some (([] : List Bool) : List Bool)).bind fun y704 => (if y704.length + l0_2.length < 140737488355328 then (barscanlaw37_MorphologyMonotony.l0 k a2 a3 l1 (l1.length : Int) 0 a0_0 a0_1 l0_2 a0_0 a0_1 (y704 ++ l0_2)) else (none)))))) = some r := h
 clear h
 by_cases c5 : (l0_2.length : Int) > 1000
 ·rw [if_pos c5] at H
  have c5b0 : decide (1000 < (l0_2.length : Int)) = true := decide_eq_true c5
  have c5b1 : decide (1000 < l0_2.length) = true := decide_eq_true (by omega)
  clear c5
  replace H := Option.bind_eq_some_iff.mp H
  obtain ⟨t701, A60, H⟩ := H
  replace H : (some t701) = some r := H
  have A6 := Aside0.mk A60
  clear A60
  obtain rfl := Option.some.inj H
  go_enter Try.func9, Try.ntmps9
  go_wp2_with (first | ((with_reducible refine gate_dst (N := 4) rfl ?_); (try (refine gate_guard (by rfl) ?_; dsimp only)); refine box_event ?hg (N := 4) ?hd (cs := #[.int .i64 a0_0, .int .i64 a0_1, .slice A0_2 l0_2.length c0_2]) (t := 24) ?hr ?_; (case hd => rfl); (case hg => rfl); (case hr => first | (go_simp; done) | (go_simp; rfl)); intro gb700 hg w7 hbox hb; have n0_ := Aside0.mk (below_step (hb0 HB) hb); have n1_ := Aside0.mk (hbox); have n2_ := Aside0.mk ((by rw [hg]; exact (below_size (hb0 HB)) : w.heap.size ≤ gb700)); have n3_ := Aside0.mk ((by rw [hg]; exact (below_size (hb0 HB)) : w.heap.size ≤ gb700)); clear HB; have HB := n0_; have BK700 := n1_; have GW700 := n2_; have GE700 := n3_; clear n0_ n1_ n2_ n3_; clear hb hbox hg; have hcz8_0 : w7.cell? ⟨gb700, 0, none⟩ = some (.int .i64 a0_0) := (blk_cell BK700.out 0).trans rfl; have hcz8_1 : w7.cell? ⟨gb700, 1, none⟩ = some (.int .i64 a0_1) := (blk_cell BK700.out 1).trans rfl; have hcz8_2 : w7.cell? ⟨gb700, 2, none⟩ = some (.slice A0_2 l0_2.length c0_2) := (blk_cell BK700.out 2).trans rfl; have hfz8_0 := blk_frozen BK700.out 0; have hfz8_1 := blk_frozen BK700.out 1; have hfz8_2 := blk_frozen BK700.out 2) | ((with_reducible refine gate_callee (f := 12) rfl ?_); refine goesL_ (some 30) rfl rfl Try.func12 (by kernel_rfl) rfl #[] rfl mapx ?_; (with_reducible refine (barscanlaw37_examples.calls k  t701 _ A6.out).mono ?_); rintro e w9 ⟨rfl, hb⟩; refine ⟨_, rfl, ?_⟩; have n0_ := Aside0.mk (blk_below (bkx BK700) hb); have n1_ := Aside0.mk (below_step (hb1 HB GE700) hb); clear BK700; clear HB; have BK700 := n0_; have HB := n1_; clear n0_ n1_; (try clear hb); (try clear hb2); (try clear hk); (try clear hi)))
  go_ret
  exact ⟨by first | rfl | (simp [errW_none, errW_some] <;> rfl) | (simp [*, errW_none, errW_some] <;> rfl), by repeat (first | (with_reducible first | exact HB.out | apply below_alloc | apply pw_below_drewN | apply below_drew1 | refine below_set ?_ GE700.out) | exact HB.out)⟩
 ·rw [if_neg c5] at H
  have c5b0 : decide (1000 < (l0_2.length : Int)) = false := decide_eq_false c5
  have c5b1 : decide (1000 < l0_2.length) = false := decide_eq_false (by omega)
  clear c5
  by_cases c10 : (l0_2.length : Int) = 0
  ·rw [if_pos c10] at H
   have c10b0 : ((l0_2.length : Int) == 0) = true := beq_iff_eq.mpr c10
   have c10b1 : ((l0_2.length : Int) != 0) = false := bne_eq_false_iff_eq.mpr c10
   clear c10
   replace H := Option.bind_eq_some_iff.mp H
   obtain ⟨t702, A110, H⟩ := H
   replace H : (some t702) = some r := H
   have A11 := Aside0.mk A110
   clear A110
   obtain rfl := Option.some.inj H
   go_enter Try.func9, Try.ntmps9
   go_wp2_with (first | ((with_reducible refine gate_dst (N := 4) rfl ?_); (try (refine gate_guard (by rfl) ?_; dsimp only)); refine box_event ?hg (N := 4) ?hd (cs := #[.int .i64 a0_0, .int .i64 a0_1, .slice A0_2 l0_2.length c0_2]) (t := 24) ?hr ?_; (case hd => rfl); (case hg => rfl); (case hr => first | (go_simp; done) | (go_simp; rfl)); intro gb700 hg w12 hbox hb; have n0_ := Aside0.mk (below_step (hb0 HB) hb); have n1_ := Aside0.mk (hbox); have n2_ := Aside0.mk ((by rw [hg]; exact (below_size (hb0 HB)) : w.heap.size ≤ gb700)); have n3_ := Aside0.mk ((by rw [hg]; exact (below_size (hb0 HB)) : w.heap.size ≤ gb700)); clear HB; have HB := n0_; have BK700 := n1_; have GW700 := n2_; have GE700 := n3_; clear n0_ n1_ n2_ n3_; clear hb hbox hg; have hcz13_0 : w12.cell? ⟨gb700, 0, none⟩ = some (.int .i64 a0_0) := (blk_cell BK700.out 0).trans rfl; have hcz13_1 : w12.cell? ⟨gb700, 1, none⟩ = some (.int .i64 a0_1) := (blk_cell BK700.out 1).trans rfl; have hcz13_2 : w12.cell? ⟨gb700, 2, none⟩ = some (.slice A0_2 l0_2.length c0_2) := (blk_cell BK700.out 2).trans rfl; have hfz13_0 := blk_frozen BK700.out 0; have hfz13_1 := blk_frozen BK700.out 1; have hfz13_2 := blk_frozen BK700.out 2) | ((with_reducible refine gate_callee (f := 12) rfl ?_); refine goesL_ (some 30) rfl rfl Try.func12 (by kernel_rfl) rfl #[] rfl mapx ?_; (with_reducible refine (barscanlaw37_examples.calls k  t702 _ A11.out).mono ?_); rintro e w14 ⟨rfl, hb⟩; refine ⟨_, rfl, ?_⟩; have n0_ := Aside0.mk (blk_below (bkx BK700) hb); have n1_ := Aside0.mk (below_step (hb1 HB GE700) hb); clear BK700; clear HB; have BK700 := n0_; have HB := n1_; clear n0_ n1_; (try clear hb); (try clear hb2); (try clear hk); (try clear hi)))
   go_ret
   exact ⟨by first | rfl | (simp [errW_none, errW_some] <;> rfl) | (simp [*, errW_none, errW_some] <;> rfl), by repeat (first | (with_reducible first | exact HB.out | apply below_alloc | apply pw_below_drewN | apply below_drew1 | refine below_set ?_ GE700.out) | exact HB.out)⟩
  ·rw [if_neg c10] at H
   have c10b0 : ((l0_2.length : Int) == 0) = false := beq_eq_false_iff_ne.mpr c10
   have c10b1 : ((l0_2.length : Int) != 0) = true := bne_iff_ne.mpr c10
   have c10b2 : ¬ (l0_2 = []) := fun h_ => c10 (by rw [h_]; rfl)
   by_cases c15 : (l1.length : Int) > 100
   ·rw [if_pos c15] at H
    have c15b0 : decide (100 < (l1.length : Int)) = true := decide_eq_true c15
    have c15b1 : decide (100 < l1.length) = true := decide_eq_true (by omega)
    clear c15
    replace H := Option.bind_eq_some_iff.mp H
    obtain ⟨t703, A160, H⟩ := H
    replace H : (some t703) = some r := H
    have A16 := Aside0.mk A160
    clear A160
    obtain rfl := Option.some.inj H
    go_enter Try.func9, Try.ntmps9
    go_wp2_with (first | ((with_reducible refine gate_dst (N := 4) rfl ?_); (try (refine gate_guard (by rfl) ?_; dsimp only)); refine box_event ?hg (N := 4) ?hd (cs := #[.int .i64 a0_0, .int .i64 a0_1, .slice A0_2 l0_2.length c0_2]) (t := 24) ?hr ?_; (case hd => rfl); (case hg => rfl); (case hr => first | (go_simp; done) | (go_simp; rfl)); intro gb700 hg w17 hbox hb; have n0_ := Aside0.mk (below_step (hb0 HB) hb); have n1_ := Aside0.mk (hbox); have n2_ := Aside0.mk ((by rw [hg]; exact (below_size (hb0 HB)) : w.heap.size ≤ gb700)); have n3_ := Aside0.mk ((by rw [hg]; exact (below_size (hb0 HB)) : w.heap.size ≤ gb700)); clear HB; have HB := n0_; have BK700 := n1_; have GW700 := n2_; have GE700 := n3_; clear n0_ n1_ n2_ n3_; clear hb hbox hg; have hcz18_0 : w17.cell? ⟨gb700, 0, none⟩ = some (.int .i64 a0_0) := (blk_cell BK700.out 0).trans rfl; have hcz18_1 : w17.cell? ⟨gb700, 1, none⟩ = some (.int .i64 a0_1) := (blk_cell BK700.out 1).trans rfl; have hcz18_2 : w17.cell? ⟨gb700, 2, none⟩ = some (.slice A0_2 l0_2.length c0_2) := (blk_cell BK700.out 2).trans rfl; have hfz18_0 := blk_frozen BK700.out 0; have hfz18_1 := blk_frozen BK700.out 1; have hfz18_2 := blk_frozen BK700.out 2) | ((with_reducible refine gate_callee (f := 12) rfl ?_); refine goesL_ (some 30) rfl rfl Try.func12 (by kernel_rfl) rfl #[] rfl mapx ?_; (with_reducible refine (barscanlaw37_examples.calls k  t703 _ A16.out).mono ?_); rintro e w19 ⟨rfl, hb⟩; refine ⟨_, rfl, ?_⟩; have n0_ := Aside0.mk (blk_below (bkx BK700) hb); have n1_ := Aside0.mk (below_step (hb1 HB GE700) hb); clear BK700; clear HB; have BK700 := n0_; have HB := n1_; clear n0_ n1_; (try clear hb); (try clear hb2); (try clear hk); (try clear hi)))
    go_ret
    exact ⟨by first | rfl | (simp [errW_none, errW_some] <;> rfl) | (simp [*, errW_none, errW_some] <;> rfl), by repeat (first | (with_reducible first | exact HB.out | apply below_alloc | apply pw_below_drewN | apply below_drew1 | refine below_set ?_ GE700.out) | exact HB.out)⟩
   ·rw [if_neg c15] at H
    have c15b0 : decide (100 < (l1.length : Int)) = false := decide_eq_false c15
    have c15b1 : decide (100 < l1.length) = false := decide_eq_false (by omega)
    clear c15
    obtain ⟨y704, hy704⟩ : ∃ y_ : List Bool, y_ = (([] : List Bool)) := ⟨_, rfl⟩
    replace H : (if y704.length + l0_2.length < 140737488355328 then (barscanlaw37_MorphologyMonotony.l0 k a2 a3 l1 (l1.length : Int) 0 a0_0 a0_1 l0_2 a0_0 a0_1 (y704 ++ l0_2)) else (none)) = some r := by first | (rw [hy704]; with_reducible exact H) | (have H2_ := (Option.bind_some _ _).symm.trans H; rw [hy704]; with_reducible exact H2_) | (have H2_ := (Option.bind_some _ _).symm.trans H; with_reducible exact H2_) | with_reducible exact H | (rw [hy704]; exact H) | exact H
    have Ny704 := Aside0.mk hy704
    clear hy704
    by_cases c20 : y704.length + l0_2.length < 140737488355328
    ·rw [if_pos c20] at H
     have LMc20 := Aside0.mk c20
     clear c20
     obtain ⟨y707, hy707⟩ : ∃ y_ : List Bool, y_ = (y704 ++ l0_2) := ⟨_, rfl⟩
     replace H : (barscanlaw37_MorphologyMonotony.l0 k a2 a3 l1 (l1.length : Int) 0 a0_0 a0_1 l0_2 a0_0 a0_1 y707) = some r := by first | (rw [hy707]; with_reducible exact H) | (have H2_ := (Option.bind_some _ _).symm.trans H; rw [hy707]; with_reducible exact H2_) | (have H2_ := (Option.bind_some _ _).symm.trans H; with_reducible exact H2_) | with_reducible exact H | (rw [hy707]; exact H) | exact H
     have Ny707 := Aside0.mk hy707
     clear hy707
     have H' := Aside0.mk H
     clear H
     go_enter Try.func9, Try.ntmps9
     try go_wp2_with (first | ((with_reducible refine gate_dst (N := 4) rfl ?_); (try (refine gate_guard (by rfl) ?_; dsimp only)); refine box_event ?hg (N := 4) ?hd (cs := #[.int .i64 a0_0, .int .i64 a0_1, .slice A0_2 l0_2.length c0_2]) (t := 24) ?hr ?_; (case hd => rfl); (case hg => rfl); (case hr => first | (go_simp; done) | (go_simp; rfl)); intro gb700 hg w21 hbox hb; have n0_ := Aside0.mk (below_step (hb0 HB) hb); have n1_ := Aside0.mk (hbox); have n2_ := Aside0.mk ((by rw [hg]; exact (below_size (hb0 HB)) : w.heap.size ≤ gb700)); have n3_ := Aside0.mk ((by rw [hg]; exact (below_size (hb0 HB)) : w.heap.size ≤ gb700)); clear HB; have HB := n0_; have BK700 := n1_; have GW700 := n2_; have GE700 := n3_; clear n0_ n1_ n2_ n3_; clear hb hbox hg; have hcz22_0 : w21.cell? ⟨gb700, 0, none⟩ = some (.int .i64 a0_0) := (blk_cell BK700.out 0).trans rfl; have hcz22_1 : w21.cell? ⟨gb700, 1, none⟩ = some (.int .i64 a0_1) := (blk_cell BK700.out 1).trans rfl; have hcz22_2 : w21.cell? ⟨gb700, 2, none⟩ = some (.slice A0_2 l0_2.length c0_2) := (blk_cell BK700.out 2).trans rfl; have hfz22_0 := blk_frozen BK700.out 0; have hfz22_1 := blk_frozen BK700.out 1; have hfz22_2 := blk_frozen BK700.out 2))
     have n0_ := Aside0.mk (blk_drew BK700.out)
     have n1_ := Aside0.mk (below_drew1 HB.out)
     clear BK700
     clear HB
     have BK700 := n0_
     have HB := n1_
     clear n0_ n1_
     refine start_ (n := 11) (S := fun w' => w'.cell? ⟨gb700, 0, none⟩ = some (.int .i64 a0_0) ∧ w'.cell? ⟨gb700, 1, none⟩ = some (.int .i64 a0_1) ∧ w'.cell? ⟨gb700, 2, none⟩ = some (.slice A0_2 l0_2.length c0_2)) (ds := []) (bA 11 0) (by kernel_rfl) rfl rfl ⟨(blk_cell BK700.out 0).trans rfl, (blk_cell BK700.out 1).trans rfl, (blk_cell BK700.out 2).trans rfl⟩ (fun hHeld => ?_); refine with_tabW barscanlaw37_MorphologyMonotony.tab3 barscanlaw37_MorphologyMonotony.bits3 (fun HT_ HW_ => ?_)
     generalize w21.drew = w23 at BK700 HB hHeld ⊢
     refine pt HT_ 0 31 ?_
     refine pt HT_ 2 33 ?_
     refine pt HT_ 5 36 ?_
     refine tk HT_ HW_ hHeld 1 32 ?_
     refine tk HT_ HW_ hHeld 3 34 ?_
     refine tk HT_ HW_ hHeld 6 37 ?_
     refine join_ (σ := Value × Value × Nat) 1 (bA 11 1023) (fun s_ => [(35, s_.1), (38, s_.2.1), (9, .pointer (some ⟨s_.2.2, 0, none⟩)), (39, .agg #[.int .i64 a0_0, .int .i64 a0_1, s_.2.1])]) (fun s_ w' => (w'.cell? ⟨gb700, 0, none⟩ = some (.int .i64 a0_0) ∧ w'.cell? ⟨gb700, 1, none⟩ = some (.int .i64 a0_1) ∧ w'.cell? ⟨gb700, 2, none⟩ = some (.slice A0_2 l0_2.length c0_2)) ∧ (Kd.R Kd.bool 4 w' w.heap.size (fun _ => True) s_.2.1 y707) ∧ (w'.heap[gb700]? = some (.cells #[.int .i64 a0_0, .int .i64 a0_1, .slice A0_2 l0_2.length c0_2] 24 (0, 0))) ∧ (w'.heap[s_.2.2]? = some (.cells #[.int .i64 0, .int .i64 0, .slice none 0 0] 24 (0, 0))) ∧ (w.heap.size ≤ s_.2.2) ∧ (w.heap.size ≤ s_.2.2) ∧ (gb700 ≠ s_.2.2) ∧ (s_.2.2 ≠ gb700) ∧ (Below w.heap.size w w')) ?_ ?_
     rotate_left
     ·intro hCont
      refine two_ (i := 4) (j := 9) (Ni := some 35) (Nj := some 9) (bA 11 127) (bA 11 623) rfl rfl rfl rfl (two_of HT_.out (by kernel_rfl)) (by decide) (by decide) (fun K hK => ?_) (fun K hK => ?_)
      ·skip
       refine Kd.R_lit_step Kd.bool _ 4 ?hg (N := 35) ?hd (xs := ([] : List Bool)) (inner := []) (ok := fun _ => True) (okp := fun _ => True) ?hr ?hp (fun _ hk => hk) trivial (Below.refl _ _) (Nat.le_refl _) (by simp) ?_; (case hd => rfl); (case hg => rfl); (case hr => first | (go_simp; done) | (go_simp; rfl)); (case hp => exact (Reps.none _ _))
       intro v705 w24 ho25 hb hg_ hnew_
       clear hg_ hnew_
       (first | rw [← Ny704.out] at ho25 | (simp only [Int.reduceToNat] at ho25; rw [← Ny704.out] at ho25))
       have n0_ := Aside0.mk (Kd.R_lower ho25 (below_size (hb1 HB GE700)))
       have n1_ := Aside0.mk (blk_below (bkx BK700) hb)
       have n2_ := Aside0.mk (below_step (hb1 HB GE700) hb)
       clear BK700
       clear HB
       have HO706 := n0_
       have BK700 := n1_
       have HB := n2_
       clear n0_ n1_ n2_
       clear hb ho25
       refine hK.out _ _ ⟨(blk_cell BK700.out 0).trans rfl, (blk_cell BK700.out 1).trans rfl, (blk_cell BK700.out 2).trans rfl⟩ (fun hHeld => ?_)
       clear hK K
       refine norm_ (a' := ?_) ?_ ?_
       rotate_left
       ·show Act.put _ (some 35) _ = _
        simp only [Act.put, List.setIfInBounds_toArray, List.set_cons_zero, List.set_cons_succ, i64_w, i32_w]
        rfl
       refine two_ (i := 7) (j := 9) (Ni := some 38) (Nj := some 9) (bA 11 255) (bA 11 639) rfl rfl rfl rfl (two_of HT_.out (by kernel_rfl)) (by decide) (by decide) (fun K hK => ?_) (fun K hK => ?_)
       ·skip
        refine Kd.R_append_rows_step Kd.bool (w0 := w) w.heap.size (by rfl) (.tmp 35) (.tmp 37) 22 4 (.bool false) 1 rfl Try.underlying22 info4 rfl (by decide) (by omega) v705 y704 l0_2 _ _ _ (fun _ => True) (fun _ => False) rfl rfl ?aO ?aR (fun _ _ h => h) (fun _ h => h.elim) ?aF ?aB ?aS ?aL ?_
        (case aR => repeat (first | exact (Kd.C_below HR0_2.out HB.out) | (with_reducible refine Kd.C_alloc ?_ _) | (with_reducible refine Kd.C_drewN ?_ _) | (with_reducible refine Kd.C_drew ?_)))
        (case aB => exact (hb1 HB GE700))
        (case aF => exact (fun _ _ => trivial))
        (case aO => exact (rkx HO706))
        (case aS => exact (below_size (hb1 HB GE700)))
        (case aL => have := LMc20.out; omega)
        intro v708 w26 ho hb hg hat
        rw [← Ny707.out] at ho
        have n0_ := Aside0.mk (blk_grown (g := gb700) (o := .cells #[.int .i64 a0_0, .int .i64 a0_1, .slice A0_2 l0_2.length c0_2] 24 (0, 0)) (bkx BK700) hg (Kd.R_ne HO706.out BK700.out (by decide)))
        have n1_ := Aside0.mk (hb)
        have n2_ := Aside0.mk (ho)
        clear BK700
        clear HB
        clear HO706
        have BK700 := n0_
        have HB := n1_
        have HO709 := n2_
        clear n0_ n1_ n2_
        clear ho hb hg hat
        obtain ⟨Ao27, co27, eo27⟩ := Kd.R_slice HO709.out
        (first | subst eo27 | (injection eo27 with f1_ f2_ f3_; have f4_ := f1_.symm; have f5_ := f3_.symm; clear f1_ f2_ f3_; subst f4_; subst f5_))
        refine hK.out _ _ ⟨(blk_cell BK700.out 0).trans rfl, (blk_cell BK700.out 1).trans rfl, (blk_cell BK700.out 2).trans rfl⟩ (fun hHeld => ?_)
        clear hK K
        refine norm_ (a' := ?_) ?_ ?_
        rotate_left
        ·show Act.put _ (some 38) _ = _
         simp only [Act.put, List.setIfInBounds_toArray, List.set_cons_zero, List.set_cons_succ, i64_w, i32_w]
         rfl
        refine pt HT_ 8 39 ?_
        refine one_ (i := 9) (N := some 9) (bA 11 1023) rfl rfl (one_of HT_.out (by kernel_rfl)) (by decide) (fun K hK => ?_)
        refine box_step ?hg (N := 9) ?hd (cs := #[.int .i64 0, .int .i64 0, .slice none 0 0]) (t := 24) ?hr ?_; (case hd => rfl); (case hg => rfl); (case hr => first | (go_simp; done) | (go_simp; rfl))
        intro gb710 hg w28 hbox hb
        have n0_ := Aside0.mk (Kd.R_below (rkx HO709) hb)
        have n1_ := Aside0.mk (blk_below (bkx BK700) hb)
        have n2_ := Aside0.mk (below_step (hb1 HB GE700) hb)
        have n3_ := Aside0.mk (hbox)
        have n4_ := Aside0.mk ((by rw [hg]; exact (below_size (hb1 HB GE700)) : w.heap.size ≤ gb710))
        have n5_ := Aside0.mk ((by rw [hg]; exact (below_size (hb1 HB GE700)) : w.heap.size ≤ gb710))
        have n6_ := Aside0.mk (nel hg BK700 : gb700 ≠ gb710)
        have n7_ := Aside0.mk (neg hg BK700 : gb710 ≠ gb700)
        clear HO709
        clear BK700
        clear HB
        have HO709 := n0_
        have BK700 := n1_
        have HB := n2_
        have BK710 := n3_
        have GW710 := n4_
        have GE710 := n5_
        have NB700_710 := n6_
        have NB710_700 := n7_
        clear n0_ n1_ n2_ n3_ n4_ n5_ n6_ n7_
        clear hb hbox hg
        refine hK.out _ _ ⟨(blk_cell BK700.out 0).trans rfl, (blk_cell BK700.out 1).trans rfl, (blk_cell BK700.out 2).trans rfl⟩ (fun hHeld => ?_)
        clear hK K
        refine norm_ (a' := ?_) ?_ ?_
        rotate_left
        ·show Act.put _ (some 9) _ = _
         simp only [Act.put, List.setIfInBounds_toArray, List.set_cons_zero, List.set_cons_succ, i64_w, i32_w]
         rfl
        exact norm_ (by simp only [putAll, Act.put, List.setIfInBounds_toArray, List.set_cons_zero, List.set_cons_succ]) (hCont (v705, .slice Ao27 y707.length co27, gb710) _ ⟨hHeld, (rkx HO709), (bkx BK700), (bkx BK710), GW710.out, GE710.out, NB700_710.out, NB710_700.out, (hb2 HB GE700 GE710)⟩)
       ·skip
        refine box_step ?hg (N := 9) ?hd (cs := #[.int .i64 0, .int .i64 0, .slice none 0 0]) (t := 24) ?hr ?_; (case hd => rfl); (case hg => rfl); (case hr => first | (go_simp; done) | (go_simp; rfl))
        intro gb710 hg w26 hbox hb
        have n0_ := Aside0.mk (Kd.R_below (rkx HO706) hb)
        have n1_ := Aside0.mk (blk_below (bkx BK700) hb)
        have n2_ := Aside0.mk (below_step (hb1 HB GE700) hb)
        have n3_ := Aside0.mk (hbox)
        have n4_ := Aside0.mk ((by rw [hg]; exact (below_size (hb1 HB GE700)) : w.heap.size ≤ gb710))
        have n5_ := Aside0.mk ((by rw [hg]; exact (below_size (hb1 HB GE700)) : w.heap.size ≤ gb710))
        have n6_ := Aside0.mk (nel hg BK700 : gb700 ≠ gb710)
        have n7_ := Aside0.mk (neg hg BK700 : gb710 ≠ gb700)
        clear HO706
        clear BK700
        clear HB
        have HO706 := n0_
        have BK700 := n1_
        have HB := n2_
        have BK710 := n3_
        have GW710 := n4_
        have GE710 := n5_
        have NB700_710 := n6_
        have NB710_700 := n7_
        clear n0_ n1_ n2_ n3_ n4_ n5_ n6_ n7_
        clear hb hbox hg
        refine hK.out _ _ ⟨(blk_cell BK700.out 0).trans rfl, (blk_cell BK700.out 1).trans rfl, (blk_cell BK700.out 2).trans rfl⟩ (fun hHeld => ?_)
        clear hK K
        refine norm_ (a' := ?_) ?_ ?_
        rotate_left
        ·show Act.put _ (some 9) _ = _
         simp only [Act.put, List.setIfInBounds_toArray, List.set_cons_zero, List.set_cons_succ, i64_w, i32_w]
         rfl
        refine one_ (i := 7) (N := some 38) (bA 11 767) rfl rfl (one_of HT_.out (by kernel_rfl)) (by decide) (fun K hK => ?_)
        refine Kd.R_append_rows_step Kd.bool (w0 := w) w.heap.size (by rfl) (.tmp 35) (.tmp 37) 22 4 (.bool false) 1 rfl Try.underlying22 info4 rfl (by decide) (by omega) v705 y704 l0_2 _ _ _ (fun _ => True) (fun _ => False) rfl rfl ?aO ?aR (fun _ _ h => h) (fun _ h => h.elim) ?aF ?aB ?aS ?aL ?_
        (case aR => repeat (first | exact (Kd.C_below HR0_2.out HB.out) | (with_reducible refine Kd.C_alloc ?_ _) | (with_reducible refine Kd.C_drewN ?_ _) | (with_reducible refine Kd.C_drew ?_)))
        (case aB => exact (hb2 HB GE700 GE710))
        (case aF => exact (fun _ _ => trivial))
        (case aO => exact (rkx HO706))
        (case aS => exact (below_size (hb2 HB GE700 GE710)))
        (case aL => have := LMc20.out; omega)
        intro v708 w27 ho hb hg hat
        rw [← Ny707.out] at ho
        have n0_ := Aside0.mk (blk_grown (g := gb700) (o := .cells #[.int .i64 a0_0, .int .i64 a0_1, .slice A0_2 l0_2.length c0_2] 24 (0, 0)) (bkx BK700) hg (Kd.R_ne HO706.out BK700.out (by decide)))
        have n1_ := Aside0.mk (blk_grown (g := gb710) (o := .cells #[.int .i64 0, .int .i64 0, .slice none 0 0] 24 (0, 0)) (bkx BK710) hg (Kd.R_ne HO706.out BK710.out (by decide)))
        have n2_ := Aside0.mk (hb)
        have n3_ := Aside0.mk (ho)
        clear BK700
        clear BK710
        clear HB
        clear HO706
        have BK700 := n0_
        have BK710 := n1_
        have HB := n2_
        have HO709 := n3_
        clear n0_ n1_ n2_ n3_
        clear ho hb hg hat
        obtain ⟨Ao28, co28, eo28⟩ := Kd.R_slice HO709.out
        (first | subst eo28 | (injection eo28 with f1_ f2_ f3_; have f4_ := f1_.symm; have f5_ := f3_.symm; clear f1_ f2_ f3_; subst f4_; subst f5_))
        refine hK.out _ _ ⟨(blk_cell BK700.out 0).trans rfl, (blk_cell BK700.out 1).trans rfl, (blk_cell BK700.out 2).trans rfl⟩ (fun hHeld => ?_)
        clear hK K
        refine norm_ (a' := ?_) ?_ ?_
        rotate_left
        ·show Act.put _ (some 38) _ = _
         simp only [Act.put, List.setIfInBounds_toArray, List.set_cons_zero, List.set_cons_succ, i64_w, i32_w]
         rfl
        refine pt HT_ 8 39 ?_
        exact norm_ (by simp only [putAll, Act.put, List.setIfInBounds_toArray, List.set_cons_zero, List.set_cons_succ]) (hCont (v705, .slice Ao28 y707.length co28, gb710) _ ⟨hHeld, (rkx HO709), (bkx BK700), (bkx BK710), GW710.out, GE710.out, NB700_710.out, NB710_700.out, (hb2 HB GE700 GE710)⟩)
      ·skip
       refine box_step ?hg (N := 9) ?hd (cs := #[.int .i64 0, .int .i64 0, .slice none 0 0]) (t := 24) ?hr ?_; (case hd => rfl); (case hg => rfl); (case hr => first | (go_simp; done) | (go_simp; rfl))
       intro gb710 hg w24 hbox hb
       have n0_ := Aside0.mk (blk_below (bkx BK700) hb)
       have n1_ := Aside0.mk (below_step (hb1 HB GE700) hb)
       have n2_ := Aside0.mk (hbox)
       have n3_ := Aside0.mk ((by rw [hg]; exact (below_size (hb1 HB GE700)) : w.heap.size ≤ gb710))
       have n4_ := Aside0.mk ((by rw [hg]; exact (below_size (hb1 HB GE700)) : w.heap.size ≤ gb710))
       have n5_ := Aside0.mk (nel hg BK700 : gb700 ≠ gb710)
       have n6_ := Aside0.mk (neg hg BK700 : gb710 ≠ gb700)
       clear BK700
       clear HB
       have BK700 := n0_
       have HB := n1_
       have BK710 := n2_
       have GW710 := n3_
       have GE710 := n4_
       have NB700_710 := n5_
       have NB710_700 := n6_
       clear n0_ n1_ n2_ n3_ n4_ n5_ n6_
       clear hb hbox hg
       refine hK.out _ _ ⟨(blk_cell BK700.out 0).trans rfl, (blk_cell BK700.out 1).trans rfl, (blk_cell BK700.out 2).trans rfl⟩ (fun hHeld => ?_)
       clear hK K
       refine norm_ (a' := ?_) ?_ ?_
       rotate_left
       ·show Act.put _ (some 9) _ = _
        simp only [Act.put, List.setIfInBounds_toArray, List.set_cons_zero, List.set_cons_succ, i64_w, i32_w]
        rfl
       refine one_ (i := 4) (N := some 35) (bA 11 639) rfl rfl (one_of HT_.out (by kernel_rfl)) (by decide) (fun K hK => ?_)
       refine Kd.R_lit_step Kd.bool _ 4 ?hg (N := 35) ?hd (xs := ([] : List Bool)) (inner := []) (ok := fun _ => True) (okp := fun _ => True) ?hr ?hp (fun _ hk => hk) trivial (Below.refl _ _) (Nat.le_refl _) (by simp) ?_; (case hd => rfl); (case hg => rfl); (case hr => first | (go_simp; done) | (go_simp; rfl)); (case hp => exact (Reps.none _ _))
       intro v705 w25 ho26 hb hg_ hnew_
       clear hg_ hnew_
       (first | rw [← Ny704.out] at ho26 | (simp only [Int.reduceToNat] at ho26; rw [← Ny704.out] at ho26))
       have n0_ := Aside0.mk (Kd.R_lower ho26 (below_size (hb2 HB GE700 GE710)))
       have n1_ := Aside0.mk (blk_below (bkx BK700) hb)
       have n2_ := Aside0.mk (blk_below (bkx BK710) hb)
       have n3_ := Aside0.mk (below_step (hb2 HB GE700 GE710) hb)
       clear BK700
       clear BK710
       clear HB
       have HO706 := n0_
       have BK700 := n1_
       have BK710 := n2_
       have HB := n3_
       clear n0_ n1_ n2_ n3_
       clear hb ho26
       refine hK.out _ _ ⟨(blk_cell BK700.out 0).trans rfl, (blk_cell BK700.out 1).trans rfl, (blk_cell BK700.out 2).trans rfl⟩ (fun hHeld => ?_)
       clear hK K
       refine norm_ (a' := ?_) ?_ ?_
       rotate_left
       ·show Act.put _ (some 35) _ = _
        simp only [Act.put, List.setIfInBounds_toArray, List.set_cons_zero, List.set_cons_succ, i64_w, i32_w]
        rfl
       refine one_ (i := 7) (N := some 38) (bA 11 767) rfl rfl (one_of HT_.out (by kernel_rfl)) (by decide) (fun K hK => ?_)
       refine Kd.R_append_rows_step Kd.bool (w0 := w) w.heap.size (by rfl) (.tmp 35) (.tmp 37) 22 4 (.bool false) 1 rfl Try.underlying22 info4 rfl (by decide) (by omega) v705 y704 l0_2 _ _ _ (fun _ => True) (fun _ => False) rfl rfl ?aO ?aR (fun _ _ h => h) (fun _ h => h.elim) ?aF ?aB ?aS ?aL ?_
       (case aR => repeat (first | exact (Kd.C_below HR0_2.out HB.out) | (with_reducible refine Kd.C_alloc ?_ _) | (with_reducible refine Kd.C_drewN ?_ _) | (with_reducible refine Kd.C_drew ?_)))
       (case aB => exact (hb2 HB GE700 GE710))
       (case aF => exact (fun _ _ => trivial))
       (case aO => exact (rkx HO706))
       (case aS => exact (below_size (hb2 HB GE700 GE710)))
       (case aL => have := LMc20.out; omega)
       intro v708 w27 ho hb hg hat
       rw [← Ny707.out] at ho
       have n0_ := Aside0.mk (blk_grown (g := gb700) (o := .cells #[.int .i64 a0_0, .int .i64 a0_1, .slice A0_2 l0_2.length c0_2] 24 (0, 0)) (bkx BK700) hg (Kd.R_ne HO706.out BK700.out (by decide)))
       have n1_ := Aside0.mk (blk_grown (g := gb710) (o := .cells #[.int .i64 0, .int .i64 0, .slice none 0 0] 24 (0, 0)) (bkx BK710) hg (Kd.R_ne HO706.out BK710.out (by decide)))
       have n2_ := Aside0.mk (hb)
       have n3_ := Aside0.mk (ho)
       clear BK700
       clear BK710
       clear HB
       clear HO706
       have BK700 := n0_
       have BK710 := n1_
       have HB := n2_
       have HO709 := n3_
       clear n0_ n1_ n2_ n3_
       clear ho hb hg hat
       obtain ⟨Ao28, co28, eo28⟩ := Kd.R_slice HO709.out
       (first | subst eo28 | (injection eo28 with f1_ f2_ f3_; have f4_ := f1_.symm; have f5_ := f3_.symm; clear f1_ f2_ f3_; subst f4_; subst f5_))
       refine hK.out _ _ ⟨(blk_cell BK700.out 0).trans rfl, (blk_cell BK700.out 1).trans rfl, (blk_cell BK700.out 2).trans rfl⟩ (fun hHeld => ?_)
       clear hK K
       refine norm_ (a' := ?_) ?_ ?_
       rotate_left
       ·show Act.put _ (some 38) _ = _
        simp only [Act.put, List.setIfInBounds_toArray, List.set_cons_zero, List.set_cons_succ, i64_w, i32_w]
        rfl
       refine pt HT_ 8 39 ?_
       exact norm_ (by simp only [putAll, Act.put, List.setIfInBounds_toArray, List.set_cons_zero, List.set_cons_succ]) (hCont (v705, .slice Ao28 y707.length co28, gb710) _ ⟨hHeld, (rkx HO709), (bkx BK700), (bkx BK710), GW710.out, GE710.out, NB700_710.out, NB710_700.out, (hb2 HB GE700 GE710)⟩)
     rintro ⟨v705, v708, gb710⟩ w29 ⟨hS_, h0_, h1_, h2_, h3_, h4_, h5_, h6_, h7_⟩
     have n0_ : Aside0 (Kd.R Kd.bool 4 w29 w.heap.size (fun _ => True) v708 y707) := ⟨h0_⟩
     have n1_ : Aside0 (w29.heap[gb700]? = some (.cells #[.int .i64 a0_0, .int .i64 a0_1, .slice A0_2 l0_2.length c0_2] 24 (0, 0))) := ⟨h1_⟩
     have n2_ : Aside0 (w29.heap[gb710]? = some (.cells #[.int .i64 0, .int .i64 0, .slice none 0 0] 24 (0, 0))) := ⟨h2_⟩
     have n3_ : Aside0 (w.heap.size ≤ gb710) := ⟨h3_⟩
     have n4_ : Aside0 (w.heap.size ≤ gb710) := ⟨h4_⟩
     have n5_ : Aside0 (gb700 ≠ gb710) := ⟨h5_⟩
     have n6_ : Aside0 (gb710 ≠ gb700) := ⟨h6_⟩
     have n7_ : Aside0 (Below w.heap.size w w29) := ⟨h7_⟩
     clear BK700
     clear HB
     clear h0_ h1_ h2_ h3_ h4_ h5_ h6_ h7_
     have HO709 := n0_
     have BK700 := n1_
     have BK710 := n2_
     have GW710 := n3_
     have GE710 := n4_
     have NB700_710 := n5_
     have NB710_700 := n6_
     have HB := n7_
     clear n0_ n1_ n2_ n3_ n4_ n5_ n6_ n7_
     have hHeld : w29.cell? ⟨gb700, 0, none⟩ = some (.int .i64 a0_0) ∧ w29.cell? ⟨gb700, 1, none⟩ = some (.int .i64 a0_1) ∧ w29.cell? ⟨gb700, 2, none⟩ = some (.slice A0_2 l0_2.length c0_2) := hS_
     obtain ⟨Ao30, co30, eo30⟩ := Kd.R_slice HO709.out
     (first | subst eo30 | (injection eo30 with f1_ f2_ f3_; have f4_ := f1_.symm; have f5_ := f3_.symm; clear f1_ f2_ f3_; subst f4_; subst f5_))
     refine norm_ (a' := ?_) ?_ ?_
     rotate_left
     ·simp only [putAll, Act.put, List.setIfInBounds_toArray, List.set_cons_zero, List.set_cons_succ]
      rfl
     refine one_ (i := 10) (N := none) (bA 11 2047) rfl rfl (one_of HT_.out (by kernel_rfl)) (by decide) (fun K hK => ?_)
     have hs31 : w29.cell? ⟨gb710, 0, none⟩ = some (.int .i64 0) := (blk_cell BK710.out 0).trans rfl
     have hfs31 := blk_frozen BK710.out 0
     have hns31_0 := NB700_710.out
     have hms31_0 := NB710_700.out
     have hs32 : w29.cell? ⟨gb710, 1, none⟩ = some (.int .i64 0) := (blk_cell BK710.out 1).trans rfl
     have hfs32 := blk_frozen BK710.out 1
     have hns32_0 := NB700_710.out
     have hms32_0 := NB710_700.out
     have hs33 : w29.cell? ⟨gb710, 2, none⟩ = some (.slice none 0 0) := (blk_cell BK710.out 2).trans rfl
     have hfs33 := blk_frozen BK710.out 2
     have hns33_0 := NB700_710.out
     have hms33_0 := NB710_700.out
     refine skip_ (w1 := ?_) (by rfl) rfl ?_ ?_
     rotate_left
     ·go_simp
      rfl
     refine hK.out _ _ ⟨((cell_far (p := ⟨gb710, _, none⟩) NB700_710.out _).trans (((cell_far (p := ⟨gb710, _, none⟩) NB700_710.out _).trans (((cell_far (p := ⟨gb710, _, none⟩) NB700_710.out _).trans (hHeld.1)))))), ((cell_far (p := ⟨gb710, _, none⟩) NB700_710.out _).trans (((cell_far (p := ⟨gb710, _, none⟩) NB700_710.out _).trans (((cell_far (p := ⟨gb710, _, none⟩) NB700_710.out _).trans (hHeld.2.1)))))), ((cell_far (p := ⟨gb710, _, none⟩) NB700_710.out _).trans (((cell_far (p := ⟨gb710, _, none⟩) NB700_710.out _).trans (((cell_far (p := ⟨gb710, _, none⟩) NB700_710.out _).trans (hHeld.2.2))))))⟩ (fun hHeld => ?_)
     clear hK K
     refine done_ (done_of HT_.out (by kernel_rfl)) ?_
     try go_wp2
     go_loopg [42] k (fun kq v42 w' => ∃ (x42_1 : Int) (x711002_1 : List Bool) (u711002 : Value), v42 = .int .i64 x42_1 ∧ Aside0 (barscanlaw37_MorphologyMonotony.l0 kq a2 a3 l1 (l1.length : Int) x42_1 a0_0 a0_1 l0_2 a0_0 a0_1 x711002_1 = some r) ∧ Aside0 (kq ≤ k) ∧ Aside0 (Kd.R Kd.bool 4 w' w.heap.size (fun _ => True) u711002 x711002_1) ∧ Aside0 (w'.heap[gb700]? = some (.cells #[.int .i64 a0_0, .int .i64 a0_1, (.slice A0_2 l0_2.length c0_2)] 24 (0, 0))) ∧ Aside0 (w'.heap[gb710]? = some (.cells #[.int .i64 a0_0, .int .i64 a0_1, u711002] 24 (0, 0))) ∧ Aside0 (Below w.heap.size w w'))
     case atStart => exact ⟨(0), (y707), (.slice Ao30 y707.length co30), (by first | rfl | (simp; done) | (simp [*]; done)), H', ⟨Nat.le_refl _⟩, ⟨by refine rkt ?_; exact Kd.R_mono (Kd.R_far (p := ⟨gb710, 2, none⟩) (Kd.R_far (p := ⟨gb710, 1, none⟩) (Kd.R_far (p := ⟨gb710, 0, none⟩) (Kd.R_types HO709.out BK710.out (by decide)) (fun _ hk => hk.2) (.int .i64 a0_0)) (fun _ hk => hk.2) (.int .i64 a0_1)) (fun _ hk => hk.2) (.slice Ao30 y707.length co30)) (fun _ hk => trivial)⟩, ⟨bky BK700 NB700_710⟩, ⟨by refine bkt ?_; refine blk_put (cs := #[.int .i64 a0_0, .int .i64 a0_1, .slice none 0 0]) ?_ 2 _ rfl; refine bkt ?_; refine blk_put (cs := #[.int .i64 a0_0, .int .i64 0, .slice none 0 0]) ?_ 1 _ rfl; refine bkt ?_; refine blk_put (cs := #[.int .i64 0, .int .i64 0, .slice none 0 0]) ?_ 0 _ rfl; refine bkt ?_; exact BK710.out⟩, ⟨hb2 HB GE700 GE710⟩⟩
     case round =>
      clear H'
      try clear c1
      try clear c2
      try clear p2
      try clear c5
      try clear c5b0
      try clear c5b1
      try clear c9
      try clear c10
      try clear c10b0
      try clear c10b1
      try clear c10b2
      try clear c12
      try clear c15
      try clear c15b0
      try clear c15b1
      try clear c20
      try clear hcz13_0
      try clear hcz13_1
      try clear hcz13_2
      try clear hcz18_0
      try clear hcz18_1
      try clear hcz18_2
      try clear hcz22_0
      try clear hcz22_1
      try clear hcz22_2
      try clear hcz8_0
      try clear hcz8_1
      try clear hcz8_2
      try clear hfz13_0
      try clear hfz13_1
      try clear hfz13_2
      try clear hfz18_0
      try clear hfz18_1
      try clear hfz18_2
      try clear hfz22_0
      try clear hfz22_1
      try clear hfz22_2
      try clear hfz8_0
      try clear hfz8_1
      try clear hfz8_2
      obtain ⟨x42_1, x711002_1, u711002, rfl, HA, HK1, HO_711002, BK700, BK710, HB⟩ := hrel
      cases gk with
      | zero => exact absurd HA.out (by simp [barscanlaw37_MorphologyMonotony.l0])
      | succ k1 =>
       have H := HA.out
       clear HA
       simp only [barscanlaw37_MorphologyMonotony.l0] at H
       by_cases c34 : x42_1 < (l1.length : Int)
       ·rw [if_pos c34] at H
        have c34b0 : decide (x42_1 < (l1.length : Int)) = true := decide_eq_true c34
        clear c34
        by_cases c35 : 0 ≤ x42_1
        ·rw [if_pos c35] at H
         have c35b0 : decide (0 ≤ x42_1) = true := decide_eq_true c35
         clear c35
         by_cases c36 : x42_1 < (l1.length : Int)
         ·rw [if_pos c36] at H
          have c36b0 : decide (x42_1 < (l1.length : Int)) = true := decide_eq_true c36
          clear c36
          by_cases c37 : (x711002_1.length : Int) = 0
          ·rw [if_pos c37] at H
           exact absurd H (by simp)
          ·rw [if_neg c37] at H
           have c37b0 : ((x711002_1.length : Int) == 0) = false := beq_eq_false_iff_ne.mpr c37
           have c37b1 : ((x711002_1.length : Int) != 0) = true := bne_iff_ne.mpr c37
           have c37b2 : ¬ (x711002_1 = []) := fun h_ => c37 (by rw [h_]; rfl)
           obtain ⟨ji38, hji38⟩ : ∃ j_ : Int, (Int.tmod (wrap64 (rd l1 x42_1)) (x711002_1.length : Int)) = j_ := ⟨_, rfl⟩
           replace H : (if 0 ≤ (ji38) then (if (ji38) < (x711002_1.length : Int) then (barscanlaw37_MorphologyMonotony.l0 k1 a2 a3 l1 (l1.length : Int) (wrap64 (x42_1 + 1)) a0_0 a0_1 l0_2 a0_0 a0_1 (x711002_1.set ((ji38) : Int).toNat true)) else (none)) else (none)) = some r := by first | (rw [hji38] at H; exact H) | (simp only [hji38] at H ⊢; exact H)
           by_cases c39 : 0 ≤ (ji38)
           ·rw [if_pos c39] at H
            have c39b0 : decide (0 ≤ (ji38)) = true := decide_eq_true c39
            clear c39
            by_cases c40 : (ji38) < (x711002_1.length : Int)
            ·rw [if_pos c40] at H
             have c40b0 : decide ((ji38) < (x711002_1.length : Int)) = true := decide_eq_true c40
             clear c40
             obtain ⟨y712, hy712⟩ : ∃ y_ : List Bool, y_ = (x711002_1.set ((ji38) : Int).toNat true) := ⟨_, rfl⟩
             replace H : (barscanlaw37_MorphologyMonotony.l0 k1 a2 a3 l1 (l1.length : Int) (wrap64 (x42_1 + 1)) a0_0 a0_1 l0_2 a0_0 a0_1 y712) = some r := by first | (rw [hy712]; with_reducible exact H) | (have H2_ := (Option.bind_some _ _).symm.trans H; rw [hy712]; with_reducible exact H2_) | (have H2_ := (Option.bind_some _ _).symm.trans H; with_reducible exact H2_) | with_reducible exact H | (rw [hy712]; exact H) | exact H
             have Ny712 := Aside0.mk hy712
             clear hy712
             have H' := Aside0.mk H
             clear H
             have p711 : 0 ≤ (x42_1 : Int) := of_decide_eq_true (by first | (with_reducible assumption) | assumption)
             have q711 : x42_1 < (l1.length : Int) := of_decide_eq_true (by first | (with_reducible assumption) | assumption)
             obtain ⟨ad711, e711, hx711_0⟩ := Kd.at_int HR1.out x42_1 p711 q711
             cases e711
             replace hx711_0 := (HB.out.cell (World.block_lt_of_cell? w _ hx711_0)).trans hx711_0
             replace p711 := eq_true p711
             replace q711 := eq_true q711
             try go_wp2
             have n0_ := Aside0.mk (Kd.R_drew HO_711002.out)
             have n1_ := Aside0.mk (blk_drew BK700.out)
             have n2_ := Aside0.mk (blk_drew BK710.out)
             have n3_ := Aside0.mk (below_drew1 HB.out)
             clear HO_711002
             clear BK700
             clear BK710
             clear HB
             have HO_711002 := n0_
             have BK700 := n1_
             have BK710 := n2_
             have HB := n3_
             clear n0_ n1_ n2_ n3_
             obtain ⟨Ao43, co43, eo43⟩ := Kd.R_slice HO_711002.out
             (first | subst eo43 | (injection eo43 with f1_ f2_ f3_; have f4_ := f1_.symm; have f5_ := f3_.symm; clear f1_ f2_ f3_; subst f4_; subst f5_))
             have p41 : 0 ≤ ((ji38) : Int) := of_decide_eq_true (by first | (with_reducible assumption) | assumption)
             have q41 : ((ji38) : Int) < ((x711002_1.length : Int) : Int) := of_decide_eq_true (by first | (with_reducible assumption) | assumption)
             obtain ⟨go41, co41, eo41, gb41, gl41, cl41, HG41⟩ := Kd.R_form HO_711002.out (by omega)
             (first | cases eo41 | (injection eo41 with ea_ en_ ec_; (first | subst ea_ | (injection ea_ with ea_; subst ea_)); subst ec_; clear en_))
             have GB41 := Aside0.mk gb41
             have GG41 := Aside0.mk HG41
             clear gb41 gl41 HG41
             obtain ⟨hx41_0, hf41_0⟩ := Kd.R_celln false HO_711002.out ((ji38) : Int) p41 q41
             replace p41 := eq_true p41
             replace q41 := eq_true q41
             have HP44 := Kd.R_putn HO_711002.out ((ji38) : Int) true
             rw [← Ny712.out] at HP44
             have HQ44 := Aside0.mk HP44
             clear HP44
             refine start_ (n := 10) (S := fun w' => w'.cell? ⟨gb710, 0, none⟩ = some (.int .i64 a0_0) ∧ w'.cell? ⟨gb710, 1, none⟩ = some (.int .i64 a0_1) ∧ w'.cell? ⟨gb710, 2, none⟩ = some (.slice (some ⟨go41, 0, none⟩) x711002_1.length co43)) (ds := [9]) (bA 10 0) (by kernel_rfl) rfl rfl ⟨(blk_cell BK710.out 0).trans rfl, (blk_cell BK710.out 1).trans rfl, (blk_cell BK710.out 2).trans rfl⟩ (fun hHeld => ?_); refine with_tabW barscanlaw37_MorphologyMonotony.tab7 barscanlaw37_MorphologyMonotony.bits7 (fun HT_ HW_ => ?_)
             generalize wr.drew = w42 at HO_711002 BK700 BK710 HB GG41 HQ44 hf41_0 hx41_0 hHeld ⊢
             refine pt HT_ 0 46 ?_
             refine pt HT_ 2 48 ?_
             refine pt HT_ 3 49 ?_
             refine pt HT_ 4 50 ?_
             refine tk HT_ HW_ hHeld 1 47 ?_
             refine tk HT_ HW_ hHeld 5 51 ?_
             refine pt HT_ 6 52 ?_
             refine pt HT_ 7 53 ?_
             refine pt HT_ 8 54 ?_
             refine last_ (i := 9) (N := none) (bA 10 1023) rfl rfl (one_of HT_.out (by kernel_rfl)) (by decide) (fun K hK => ?_)
             refine skip_ (w1 := ?_) (by rfl) rfl ?_ ?_
             rotate_left
             ·go_simp
              rfl
             refine hK.out _ _ ?_
             clear hK K
             refine done_ (done_of HT_.out (by kernel_rfl)) ?_
             try go_wp2
             go_roundg k1
             case measure => have := HK1.out; omega
             case rel => exact ⟨(wrap64 (x42_1 + 1)), (y712), (.slice (some ⟨go41, 0, none⟩) x711002_1.length co43), (by first | rfl | (simp; done) | (simp [*]; done)), H', ⟨by have := HK1.out; omega⟩, ⟨rkx HQ44⟩, ⟨by refine bkt ?_; refine blk_far ?_ (by have h_ := Kd.R_ne HO_711002.out BK700.out (by decide); intro e_; exact h_ (by rw [e_]; rfl)) _; refine bkt ?_; exact BK700.out⟩, ⟨by refine bkt ?_; refine blk_far ?_ (by have h_ := Kd.R_ne HO_711002.out BK710.out (by decide); intro e_; exact h_ (by rw [e_]; rfl)) _; refine bkt ?_; exact BK710.out⟩, ⟨hb3 HB GB41 GE700 GE710⟩⟩
            ·rw [if_neg c40] at H
             exact absurd H (by simp)
           ·rw [if_neg c39] at H
            exact absurd H (by simp)
         ·rw [if_neg c36] at H
          exact absurd H (by simp)
        ·rw [if_neg c35] at H
         exact absurd H (by simp)
       ·rw [if_neg c34] at H
        have c34b0 : decide (x42_1 < (l1.length : Int)) = false := decide_eq_false c34
        clear c34
        replace H := Option.bind_eq_some_iff.mp H
        obtain ⟨t713, A450, H⟩ := H
        replace H : ((barscanlaw37_operations.f k1 a0_0 a0_1 x711002_1 a2 a3).bind fun t716 => (barscanlaw37_MorphologyMonotony.l1 k1 t713 t716 (t713.length : Int) 0)) = some r := H
        have A45 := Aside0.mk A450
        clear A450
        replace H := Option.bind_eq_some_iff.mp H
        obtain ⟨t716, A460, H⟩ := H
        replace H : (barscanlaw37_MorphologyMonotony.l1 k1 t713 t716 (t713.length : Int) 0) = some r := H
        have A46 := Aside0.mk A460
        clear A460
        have H' := Aside0.mk H
        clear H
        try go_wp2
        have n0_ := Aside0.mk (Kd.R_drew HO_711002.out)
        have n1_ := Aside0.mk (blk_drew BK700.out)
        have n2_ := Aside0.mk (blk_drew BK710.out)
        have n3_ := Aside0.mk (below_drew1 HB.out)
        clear HO_711002
        clear BK700
        clear BK710
        clear HB
        have HO_711002 := n0_
        have BK700 := n1_
        have BK710 := n2_
        have HB := n3_
        clear n0_ n1_ n2_ n3_
        refine start_ (n := 10) (S := fun w' => w'.cell? ⟨gb700, 0, none⟩ = some (.int .i64 a0_0) ∧ w'.cell? ⟨gb700, 1, none⟩ = some (.int .i64 a0_1) ∧ w'.cell? ⟨gb700, 2, none⟩ = some (.slice A0_2 l0_2.length c0_2) ∧ w'.cell? ⟨gb710, 0, none⟩ = some (.int .i64 a0_0) ∧ w'.cell? ⟨gb710, 1, none⟩ = some (.int .i64 a0_1) ∧ w'.cell? ⟨gb710, 2, none⟩ = some (u711002)) (ds := []) (bA 10 0) (by kernel_rfl) rfl rfl ⟨(blk_cell BK700.out 0).trans rfl, (blk_cell BK700.out 1).trans rfl, (blk_cell BK700.out 2).trans rfl, (blk_cell BK710.out 0).trans rfl, (blk_cell BK710.out 1).trans rfl, (blk_cell BK710.out 2).trans rfl⟩ (fun hHeld => ?_); refine with_tabW barscanlaw37_MorphologyMonotony.tab9 barscanlaw37_MorphologyMonotony.bits9 (fun HT_ HW_ => ?_)
        generalize wr.drew = w47 at HO_711002 BK700 BK710 HB hHeld ⊢
        refine pt HT_ 1 57 ?_
        refine pt HT_ 2 58 ?_
        refine pt HT_ 5 61 ?_
        refine pt HT_ 6 62 ?_
        refine tk HT_ HW_ hHeld 0 56 ?_
        refine tk HT_ HW_ hHeld 4 60 ?_
        refine one_ (i := 3) (N := some 59) (bA 10 127) rfl rfl (one_of HT_.out (by kernel_rfl)) (by decide) (fun K hK => ?_)
        refine goes_ Try.func29 (by kernel_rfl) rfl #[.agg #[.int .i64 a0_0, .int .i64 a0_1, .slice A0_2 l0_2.length c0_2], .int .i64 a2, .int .i64 a3] (by rfl) rfl rfl mapx ?_
        with_reducible refine (barscanlaw37_operations.calls k1 a0_0 a0_1 _ _ l0_2 a2 a3 t713 _ ?side1 ?side2 A45.out).mono ?_
        (case side1 => repeat (first | exact (Kd.C_below HR0_2.out HB.out) | (with_reducible refine Kd.C_alloc ?_ _) | (with_reducible refine Kd.C_drewN ?_ _) | (with_reducible refine Kd.C_drew ?_)))
        (case side2 => exact HC0_2.out)
        rintro e w48 ⟨v714, rfl, ho0, hb⟩
        refine ⟨_, rfl, ?_⟩
        have n0_ := Aside0.mk (Kd.R_below (rkx HO_711002) hb)
        have n1_ := Aside0.mk (Kd.N_lower (Kd.N_mono (ok' := fun k_ => some k_ ≠ (u711002 : Value).ownBlock ∧ k_ ≠ gb700 ∧ k_ ≠ gb710) ho0 (fun k_ hk_ => ⟨(Kd.fresh' (Kd.R_lt (rkx HO_711002)) k_ hk_), (Kd.freshB (g := gb700) (o := .cells #[.int .i64 a0_0, .int .i64 a0_1, .slice A0_2 l0_2.length c0_2] 24 (0, 0)) (bkx BK700) k_ hk_), (Kd.freshB (g := gb710) (o := .cells #[.int .i64 a0_0, .int .i64 a0_1, u711002] 24 (0, 0)) (bkx BK710) k_ hk_)⟩)) (below_size (hb2 HB GE700 GE710)))
        have n2_ := Aside0.mk (blk_below (bkx BK700) hb)
        have n3_ := Aside0.mk (blk_below (bkx BK710) hb)
        have n4_ := Aside0.mk (below_step (hb2 HB GE700 GE710) hb)
        clear HO_711002
        clear BK700
        clear BK710
        clear HB
        have HO_711002 := n0_
        have HO715 := n1_
        have BK700 := n2_
        have BK710 := n3_
        have HB := n4_
        clear n0_ n1_ n2_ n3_ n4_
        (try clear hb)
        (try clear hb2)
        (try clear hk)
        (try clear hi)
        (try clear ho0)
        obtain ⟨Ao49, co49, eo49⟩ := Kd.R_slice HO_711002.out
        (first | subst eo49 | (injection eo49 with f1_ f2_ f3_; have f4_ := f1_.symm; have f5_ := f3_.symm; clear f1_ f2_ f3_; subst f4_; subst f5_))
        refine hK.out _ _ ⟨(blk_cell BK700.out 0).trans rfl, (blk_cell BK700.out 1).trans rfl, (blk_cell BK700.out 2).trans rfl, (blk_cell BK710.out 0).trans rfl, (blk_cell BK710.out 1).trans rfl, (blk_cell BK710.out 2).trans rfl⟩ (fun hHeld => ?_)
        clear hK K
        refine norm_ (a' := ?_) ?_ ?_
        rotate_left
        ·show Act.put _ (some 59) _ = _
         simp only [Act.put, List.setIfInBounds_toArray, List.set_cons_zero, List.set_cons_succ, i64_w, i32_w]
         rfl
        refine one_ (i := 7) (N := some 63) (bA 10 255) rfl rfl (one_of HT_.out (by kernel_rfl)) (by decide) (fun K hK => ?_)
        refine goes_ Try.func29 (by kernel_rfl) rfl #[.agg #[.int .i64 a0_0, .int .i64 a0_1, .slice Ao49 x711002_1.length co49], .int .i64 a2, .int .i64 a3] (by rfl) rfl rfl mapx ?_
        with_reducible refine (barscanlaw37_operations.calls k1 a0_0 a0_1 _ _ x711002_1 a2 a3 t716 _ ?side1 ?side2 A46.out).mono ?_
        (case side1 => repeat (first | exact (Kd.R_reads' HO_711002.out).2.2 | (with_reducible refine Kd.C_alloc ?_ _) | (with_reducible refine Kd.C_drewN ?_ _) | (with_reducible refine Kd.C_drew ?_)))
        (case side2 => exact (Kd.R_reads' HO_711002.out).2.1)
        rintro e w50 ⟨v717, rfl, ho0, hb⟩
        refine ⟨_, rfl, ?_⟩
        have n0_ := Aside0.mk (Kd.R_below (rkx HO_711002) hb)
        have n1_ := Aside0.mk (Kd.N_elder' (by (with_reducible repeat (first | apply Kd.N_alloc | apply Kd.N_drewN | apply Kd.N_drew)); exact HO715.out) (Kd.N_base ho0) hb)
        have n2_ := Aside0.mk (Kd.N_lower (Kd.N_mono (ok' := fun k_ => some k_ ≠ (.slice Ao49 x711002_1.length co49 : Value).ownBlock ∧ some k_ ≠ (v714 : Value).ownBlock ∧ k_ ≠ gb700 ∧ k_ ≠ gb710) ho0 (fun k_ hk_ => ⟨(Kd.fresh' (Kd.R_lt (rkx HO_711002)) k_ hk_), (Kd.fresh' (Kd.N_lt (by (with_reducible repeat (first | apply Kd.N_alloc | apply Kd.N_drewN | apply Kd.N_drew)); exact HO715.out)) k_ hk_), (Kd.freshB (g := gb700) (o := .cells #[.int .i64 a0_0, .int .i64 a0_1, .slice A0_2 l0_2.length c0_2] 24 (0, 0)) (bkx BK700) k_ hk_), (Kd.freshB (g := gb710) (o := .cells #[.int .i64 a0_0, .int .i64 a0_1, .slice Ao49 x711002_1.length co49] 24 (0, 0)) (bkx BK710) k_ hk_)⟩)) (below_size (hb2 HB GE700 GE710)))
        have n3_ := Aside0.mk (blk_below (bkx BK700) hb)
        have n4_ := Aside0.mk (blk_below (bkx BK710) hb)
        have n5_ := Aside0.mk (below_step (hb2 HB GE700 GE710) hb)
        clear HO_711002
        clear HO715
        clear BK700
        clear BK710
        clear HB
        have HO_711002 := n0_
        have HO715 := n1_
        have HO718 := n2_
        have BK700 := n3_
        have BK710 := n4_
        have HB := n5_
        clear n0_ n1_ n2_ n3_ n4_ n5_
        (try clear hb)
        (try clear hb2)
        (try clear hk)
        (try clear hi)
        (try clear ho0)
        refine hK.out _ _ ⟨(blk_cell BK700.out 0).trans rfl, (blk_cell BK700.out 1).trans rfl, (blk_cell BK700.out 2).trans rfl, (blk_cell BK710.out 0).trans rfl, (blk_cell BK710.out 1).trans rfl, (blk_cell BK710.out 2).trans rfl⟩ (fun hHeld => ?_)
        clear hK K
        refine norm_ (a' := ?_) ?_ ?_
        rotate_left
        ·show Act.put _ (some 63) _ = _
         simp only [Act.put, List.setIfInBounds_toArray, List.set_cons_zero, List.set_cons_succ, i64_w, i32_w]
         rfl
        refine pt HT_ 8 12 ?_
        refine pt HT_ 9 13 ?_
        refine done_ (done_of HT_.out (by kernel_rfl)) ?_
        obtain ⟨Ao51, co51, eo51⟩ := Kd.N_slice HO715.out
        subst eo51
        try go_wp2
        go_loopg [66] k1 (fun kq v66 w' => ∃ (x66_2 : Int), v66 = .int .i64 x66_2 ∧ Aside0 (barscanlaw37_MorphologyMonotony.l1 kq t713 t716 (t713.length : Int) x66_2 = some r) ∧ Aside0 (kq ≤ k1) ∧ Aside0 (Kd.N k24 24 w' w.heap.size (fun k_ => some k_ ≠ (v717 : Value).ownBlock ∧ some k_ ≠ ((.slice Ao49 x711002_1.length co49) : Value).ownBlock ∧ k_ ≠ gb700 ∧ k_ ≠ gb710) (.slice Ao51 t713.length co51) t713) ∧ Aside0 (Kd.N k24 24 w' w.heap.size (fun k_ => some k_ ≠ ((.slice Ao51 t713.length co51) : Value).ownBlock ∧ some k_ ≠ ((.slice Ao49 x711002_1.length co49) : Value).ownBlock ∧ k_ ≠ gb700 ∧ k_ ≠ gb710) v717 t716) ∧ Aside0 (Kd.R Kd.bool 4 w' w.heap.size (fun _ => True) (.slice Ao49 x711002_1.length co49) x711002_1) ∧ Aside0 (w'.heap[gb700]? = some (.cells #[.int .i64 a0_0, .int .i64 a0_1, (.slice A0_2 l0_2.length c0_2)] 24 (0, 0))) ∧ Aside0 (w'.heap[gb710]? = some (.cells #[.int .i64 a0_0, .int .i64 a0_1, (.slice Ao49 x711002_1.length co49)] 24 (0, 0))) ∧ Aside0 (Below w.heap.size w w'))
        case atStart => exact ⟨(0), (by first | rfl | (simp; done) | (simp [*]; done)), H', ⟨Nat.le_refl _⟩, ⟨by (with_reducible repeat (first | apply Kd.N_alloc | apply Kd.N_drewN | apply Kd.N_drew)); exact Kd.N_mono HO715.out (fun _ hk => ⟨hk.2, ⟨hk.1.1, ⟨hk.1.2.1, hk.1.2.2⟩⟩⟩)⟩, ⟨by (with_reducible repeat (first | apply Kd.N_alloc | apply Kd.N_drewN | apply Kd.N_drew)); exact Kd.N_mono HO718.out (fun _ hk => ⟨hk.2.1, ⟨hk.1, ⟨hk.2.2.1, hk.2.2.2⟩⟩⟩)⟩, ⟨rkx HO_711002⟩, ⟨bkx BK700⟩, ⟨bkx BK710⟩, ⟨hb2 HB GE700 GE710⟩⟩
        case round =>
         clear H'
         try clear c1
         try clear c2
         try clear p2
         try clear c3
         try clear c4
         try clear p4
         try clear q4
         try clear hx4
         try clear hf4
         try clear c5
         try clear c5b0
         try clear c5b1
         try clear p6
         try clear p7
         try clear q7
         try clear hx7
         try clear c9
         try clear c10
         try clear c10b0
         try clear c10b1
         try clear c10b2
         try clear c12
         try clear c15
         try clear c15b0
         try clear c15b1
         try clear c20
         try clear c29
         try clear c34
         try clear c34b0
         try clear c35
         try clear c35b0
         try clear c36
         try clear c36b0
         try clear c37
         try clear c37b0
         try clear c37b1
         try clear c37b2
         try clear c39
         try clear c39b0
         try clear c40
         try clear c40b0
         try clear p41
         try clear q41
         try clear hx41
         try clear hf41
         try clear hcz13_0
         try clear hcz13_1
         try clear hcz13_2
         try clear hcz18_0
         try clear hcz18_1
         try clear hcz18_2
         try clear hcz22_0
         try clear hcz22_1
         try clear hcz22_2
         try clear hcz8_0
         try clear hcz8_1
         try clear hcz8_2
         try clear hfz13_0
         try clear hfz13_1
         try clear hfz13_2
         try clear hfz18_0
         try clear hfz18_1
         try clear hfz18_2
         try clear hfz22_0
         try clear hfz22_1
         try clear hfz22_2
         try clear hfz8_0
         try clear hfz8_1
         try clear hfz8_2
         try clear hx41_0
         try clear hx711_0
         try clear p2
         try clear p41
         try clear p711
         try clear q41
         try clear q711
         obtain ⟨x66_2, rfl, HA, HK2, HO_12, HO_13, HO_711002, BK700, BK710, HB⟩ := hrel
         cases gk with
         | zero => exact absurd HA.out (by simp [barscanlaw37_MorphologyMonotony.l1])
         | succ k2 =>
          have H := HA.out
          clear HA
          simp only [barscanlaw37_MorphologyMonotony.l1] at H
          by_cases c52 : x66_2 < (t713.length : Int)
          ·rw [if_pos c52] at H
           have c52b0 : decide (x66_2 < (t713.length : Int)) = true := decide_eq_true c52
           clear c52
           by_cases c53 : 0 ≤ x66_2
           ·rw [if_pos c53] at H
            have c53b0 : decide (0 ≤ x66_2) = true := decide_eq_true c53
            clear c53
            by_cases c54 : x66_2 < (t713.length : Int)
            ·rw [if_pos c54] at H
             have c54b0 : decide (x66_2 < (t713.length : Int)) = true := decide_eq_true c54
             clear c54
             by_cases c55 : x66_2 < (t716.length : Int)
             ·rw [if_pos c55] at H
              have c55b0 : decide (x66_2 < (t716.length : Int)) = true := decide_eq_true c55
              clear c55
              replace H := Option.bind_eq_some_iff.mp H
              obtain ⟨t721, A560, H⟩ := H
              replace H : (if t721 = true then (barscanlaw37_MorphologyMonotony.l1 k2 t713 t716 (t713.length : Int) (wrap64 (x66_2 + 1))) else (none)) = some r := H
              have A56 := Aside0.mk A560
              clear A560
              by_cases c57 : t721 = true
              ·subst c57
               have H1 : (barscanlaw37_MorphologyMonotony.l1 k2 t713 t716 (t713.length : Int) (wrap64 (x66_2 + 1))) = some r := by rw [if_pos rfl] at H; exact H
               clear H
               have H := H1
               clear H1
               have H' := Aside0.mk H
               clear H
               try go_wp2
               have n0_ := Aside0.mk (Kd.N_drew HO_12.out)
               have n1_ := Aside0.mk (Kd.N_drew HO_13.out)
               have n2_ := Aside0.mk (Kd.R_drew HO_711002.out)
               have n3_ := Aside0.mk (blk_drew BK700.out)
               have n4_ := Aside0.mk (blk_drew BK710.out)
               have n5_ := Aside0.mk (below_drew1 HB.out)
               clear HO_12
               clear HO_13
               clear HO_711002
               clear BK700
               clear BK710
               clear HB
               have HO_12 := n0_
               have HO_13 := n1_
               have HO_711002 := n2_
               have BK700 := n3_
               have BK710 := n4_
               have HB := n5_
               clear n0_ n1_ n2_ n3_ n4_ n5_
               have p719 : 0 ≤ (x66_2 : Int) := of_decide_eq_true (by first | (with_reducible assumption) | assumption)
               have q719 : x66_2 < (t713.length : Int) := of_decide_eq_true (by first | (with_reducible assumption) | assumption)
               obtain ⟨ad719, A719_2, c719_2, e719, hx719_0, hx719_1, hx719_2, hl719_2, hi719_2⟩ := at_T24 (Kd.N_reads' HO_12.out).2.2 x66_2 p719 q719
               cases e719
               obtain ⟨ce719, hce719, hMe719, hcc719⟩ := Kd.N_get HO_12.out z24 x66_2 p719 (by first | exact q719 | exact of_decide_eq_true (by first | (with_reducible assumption) | assumption) | (have e_ := (Kd.N_reads' HO_12.out).1; omega))
               obtain ⟨ua719_2, uc719_2, rfl, ul719_2, ge719_2⟩ := k24_openF hMe719
               have hv719_2 := hcc719 2 _ rfl
               rw [add_field _ _ 2 (by omega)] at hv719_2
               replace hv719_2 := Option.some.inj (hv719_2.symm.trans hx719_2)
               injection hv719_2 with hva_ hvn_ hvc_
               rw [hva_] at ge719_2
               rw [hvc_] at ul719_2
               have HL719_2 := Aside0.mk (show Kd.V Kd.bool 4 _ w.heap.size _ _ ((rd_T24 t713 x66_2).f2) from Kd.V_mk ul719_2 ge719_2)
               clear hva_ hvn_ hvc_ ge719_2 ul719_2
               clear hcc719 hce719
               have HR719_2 := Aside0.mk hi719_2
               have HC719_2 := Aside0.mk hl719_2
               clear hi719_2 hl719_2
               replace p719 := eq_true p719
               replace q719 := eq_true q719
               obtain ⟨Ao59, co59, eo59⟩ := Kd.N_slice HO_13.out
               (first | subst eo59 | (injection eo59 with f1_ f2_ f3_; have f4_ := f1_.symm; have f5_ := f3_.symm; clear f1_ f2_ f3_; subst f4_; subst f5_))
               have p720 : 0 ≤ (x66_2 : Int) := of_decide_eq_true (by first | (with_reducible assumption) | assumption)
               have q720 : x66_2 < (t716.length : Int) := of_decide_eq_true (by first | (with_reducible assumption) | assumption)
               obtain ⟨ad720, A720_2, c720_2, e720, hx720_0, hx720_1, hx720_2, hl720_2, hi720_2⟩ := at_T24 (Kd.N_reads' HO_13.out).2.2 x66_2 p720 q720
               cases e720
               obtain ⟨ce720, hce720, hMe720, hcc720⟩ := Kd.N_get HO_13.out z24 x66_2 p720 (by first | exact q720 | exact of_decide_eq_true (by first | (with_reducible assumption) | assumption) | (have e_ := (Kd.N_reads' HO_13.out).1; omega))
               obtain ⟨ua720_2, uc720_2, rfl, ul720_2, ge720_2⟩ := k24_openF hMe720
               have hv720_2 := hcc720 2 _ rfl
               rw [add_field _ _ 2 (by omega)] at hv720_2
               replace hv720_2 := Option.some.inj (hv720_2.symm.trans hx720_2)
               injection hv720_2 with hva_ hvn_ hvc_
               rw [hva_] at ge720_2
               rw [hvc_] at ul720_2
               have HL720_2 := Aside0.mk (show Kd.V Kd.bool 4 _ w.heap.size _ _ ((rd_T24 t716 x66_2).f2) from Kd.V_mk ul720_2 ge720_2)
               clear hva_ hvn_ hvc_ ge720_2 ul720_2
               clear hcc720 hce720
               have HR720_2 := Aside0.mk hi720_2
               have HC720_2 := Aside0.mk hl720_2
               clear hi720_2 hl720_2
               replace p720 := eq_true p720
               replace q720 := eq_true q720
               refine start_ (n := 10) (S := fun w' => w'.cell? (ad719.add ((x66_2).toNat * 3)) = some (.int .i64 ((rd_T24 t713 x66_2).f0)) ∧ w'.cell? ⟨(ad719.add ((x66_2).toNat * 3)).block, (ad719.add ((x66_2).toNat * 3)).off + 1, none⟩ = some (.int .i64 ((rd_T24 t713 x66_2).f1)) ∧ w'.cell? ⟨(ad719.add ((x66_2).toNat * 3)).block, (ad719.add ((x66_2).toNat * 3)).off + 2, none⟩ = some (.slice A719_2 ((rd_T24 t713 x66_2).f2).length c719_2) ∧ w'.cell? (ad720.add ((x66_2).toNat * 3)) = some (.int .i64 ((rd_T24 t716 x66_2).f0)) ∧ w'.cell? ⟨(ad720.add ((x66_2).toNat * 3)).block, (ad720.add ((x66_2).toNat * 3)).off + 1, none⟩ = some (.int .i64 ((rd_T24 t716 x66_2).f1)) ∧ w'.cell? ⟨(ad720.add ((x66_2).toNat * 3)).block, (ad720.add ((x66_2).toNat * 3)).off + 2, none⟩ = some (.slice A720_2 ((rd_T24 t716 x66_2).f2).length c720_2)) (ds := []) (bA 10 0) (by kernel_rfl) rfl rfl ⟨hx719_0, hx719_1, hx719_2, hx720_0, hx720_1, hx720_2⟩ (fun hHeld => ?_); refine with_tabW barscanlaw37_MorphologyMonotony.tab13 barscanlaw37_MorphologyMonotony.bits13 (fun HT_ HW_ => ?_)
               generalize wr.drew = w58 at HO_12 HO_13 HO_711002 BK700 BK710 HB HL719_2 HL720_2 HR719_2 HR720_2 hx719_0 hx719_1 hx719_2 hx720_0 hx720_1 hx720_2 hHeld ⊢
               refine pt HT_ 0 69 ?_
               refine pt HT_ 1 70 ?_
               refine pt HT_ 2 71 ?_
               refine pt HT_ 4 73 ?_
               refine pt HT_ 5 74 ?_
               refine pt HT_ 6 75 ?_
               refine tk HT_ HW_ hHeld 3 72 ?_
               refine tk HT_ HW_ hHeld 7 76 ?_
               refine one_ (i := 8) (N := some 77) (bA 10 511) rfl rfl (one_of HT_.out (by kernel_rfl)) (by decide) (fun K hK => ?_)
               refine goes_ Try.func22 (by kernel_rfl) rfl #[.agg #[.int .i64 ((rd_T24 t713 x66_2).f0), .int .i64 ((rd_T24 t713 x66_2).f1), .slice A719_2 ((rd_T24 t713 x66_2).f2).length c719_2], .agg #[.int .i64 ((rd_T24 t716 x66_2).f0), .int .i64 ((rd_T24 t716 x66_2).f1), .slice A720_2 ((rd_T24 t716 x66_2).f2).length c720_2]] (by rfl) rfl rfl mapx ?_
               with_reducible refine (barscanlaw37_within.calls k2 ((rd_T24 t713 x66_2).f0) ((rd_T24 t713 x66_2).f1) _ _ ((rd_T24 t713 x66_2).f2) ((rd_T24 t716 x66_2).f0) ((rd_T24 t716 x66_2).f1) _ _ ((rd_T24 t716 x66_2).f2) true _ ?side1 ?side2 ?side3 ?side4 A56.out).mono ?_
               (case side1 => repeat (first | exact (by repeat (first | (with_reducible exact HR719_2.out) | (with_reducible refine Kd.C_alloc ?_ _) | (with_reducible refine Kd.C_drewN ?_ _) | (with_reducible refine Kd.C_drew ?_) | exact HR719_2.out)) | (with_reducible refine Kd.C_alloc ?_ _) | (with_reducible refine Kd.C_drewN ?_ _) | (with_reducible refine Kd.C_drew ?_)))
               (case side2 => exact HC719_2.out)
               (case side3 => repeat (first | exact (by repeat (first | (with_reducible exact HR720_2.out) | (with_reducible refine Kd.C_alloc ?_ _) | (with_reducible refine Kd.C_drewN ?_ _) | (with_reducible refine Kd.C_drew ?_) | exact HR720_2.out)) | (with_reducible refine Kd.C_alloc ?_ _) | (with_reducible refine Kd.C_drewN ?_ _) | (with_reducible refine Kd.C_drew ?_)))
               (case side4 => exact HC720_2.out)
               rintro e w60 ⟨rfl, hb⟩
               have HS0_ := (hb.cell (World.block_lt_of_cell? _ _ (hHeld.1))).trans (hHeld.1)
               have HS1_ := (hb.cell (World.block_lt_of_cell? _ _ (hHeld.2.1))).trans (hHeld.2.1)
               have HS2_ := (hb.cell (World.block_lt_of_cell? _ _ (hHeld.2.2.1))).trans (hHeld.2.2.1)
               have HS3_ := (hb.cell (World.block_lt_of_cell? _ _ (hHeld.2.2.2.1))).trans (hHeld.2.2.2.1)
               have HS4_ := (hb.cell (World.block_lt_of_cell? _ _ (hHeld.2.2.2.2.1))).trans (hHeld.2.2.2.2.1)
               have HS5_ := (hb.cell (World.block_lt_of_cell? _ _ (hHeld.2.2.2.2.2))).trans (hHeld.2.2.2.2.2)
               refine ⟨_, rfl, ?_⟩
               have n0_ := Aside0.mk (Kd.N_below (by (with_reducible repeat (first | apply Kd.N_alloc | apply Kd.N_drewN | apply Kd.N_drew)); exact HO_12.out) hb)
               have n1_ := Aside0.mk (Kd.N_below (by (with_reducible repeat (first | apply Kd.N_alloc | apply Kd.N_drewN | apply Kd.N_drew)); exact HO_13.out) hb)
               have n2_ := Aside0.mk (Kd.R_below (rkx HO_711002) hb)
               have n3_ := Aside0.mk (Kd.V_below (by (with_reducible repeat (first | apply Kd.V_alloc | apply Kd.V_drewN | apply Kd.V_drew)); exact HL719_2.out) hb)
               have n4_ := Aside0.mk (Kd.V_below (by (with_reducible repeat (first | apply Kd.V_alloc | apply Kd.V_drewN | apply Kd.V_drew)); exact HL720_2.out) hb)
               have n5_ := Aside0.mk (blk_below (bkx BK700) hb)
               have n6_ := Aside0.mk (blk_below (bkx BK710) hb)
               have n7_ := Aside0.mk (Kd.C_below (by repeat (first | (with_reducible exact HR719_2.out) | (with_reducible refine Kd.C_alloc ?_ _) | (with_reducible refine Kd.C_drewN ?_ _) | (with_reducible refine Kd.C_drew ?_) | exact HR719_2.out)) hb)
               have n8_ := Aside0.mk (Kd.C_below (by repeat (first | (with_reducible exact HR720_2.out) | (with_reducible refine Kd.C_alloc ?_ _) | (with_reducible refine Kd.C_drewN ?_ _) | (with_reducible refine Kd.C_drew ?_) | exact HR720_2.out)) hb)
               have n9_ := Aside0.mk (below_step (hb2 HB GE700 GE710) hb)
               clear HO_12
               clear HO_13
               clear HO_711002
               clear HL719_2
               clear HL720_2
               clear BK700
               clear BK710
               clear HR719_2
               clear HR720_2
               clear HB
               have HO_12 := n0_
               have HO_13 := n1_
               have HO_711002 := n2_
               have HL719_2 := n3_
               have HL720_2 := n4_
               have BK700 := n5_
               have BK710 := n6_
               have HR719_2 := n7_
               have HR720_2 := n8_
               have HB := n9_
               clear n0_ n1_ n2_ n3_ n4_ n5_ n6_ n7_ n8_ n9_
               (try clear hb)
               (try clear hb2)
               (try clear hk)
               (try clear hi)
               refine hK.out _ _ ⟨HS0_, HS1_, HS2_, HS3_, HS4_, HS5_⟩ (fun hHeld => ?_)
               clear hK K
               refine norm_ (a' := ?_) ?_ ?_
               rotate_left
               ·show Act.put _ (some 77) _ = _
                simp only [Act.put, List.setIfInBounds_toArray, List.set_cons_zero, List.set_cons_succ, i64_w, i32_w]
                rfl
               refine pt HT_ 9 78 ?_
               refine done_ (done_of HT_.out (by kernel_rfl)) ?_
               try go_wp2
               go_roundg k2
               case measure => have := HK1.out; have := HK2.out; omega
               case rel => exact ⟨(wrap64 (x66_2 + 1)), (by first | rfl | (simp; done) | (simp [*]; done)), H', ⟨by have := HK1.out; have := HK2.out; omega⟩, ⟨by (with_reducible repeat (first | apply Kd.N_alloc | apply Kd.N_drewN | apply Kd.N_drew)); exact HO_12.out⟩, ⟨by (with_reducible repeat (first | apply Kd.N_alloc | apply Kd.N_drewN | apply Kd.N_drew)); exact HO_13.out⟩, ⟨rkx HO_711002⟩, ⟨bkx BK700⟩, ⟨bkx BK710⟩, ⟨hb2 HB GE700 GE710⟩⟩
              ·replace c57 := Bool.eq_false_iff.mpr c57
               subst c57
               have H1 : (none) = some r := by rw [if_neg (show ¬ (false = true) by decide)] at H; exact H
               clear H
               have H := H1
               clear H1
               exact absurd H (by simp)
             ·rw [if_neg c55] at H
              exact absurd H (by simp)
            ·rw [if_neg c54] at H
             exact absurd H (by simp)
           ·rw [if_neg c53] at H
            exact absurd H (by simp)
          ·rw [if_neg c52] at H
           have c52b0 : decide (x66_2 < (t713.length : Int)) = false := decide_eq_false c52
           clear c52
           replace H := Option.bind_eq_some_iff.mp H
           obtain ⟨t722, A610, H⟩ := H
           replace H : (some t722) = some r := H
           have A61 := Aside0.mk A610
           clear A610
           obtain rfl := Option.some.inj H
           go_wp2_with (first | ((with_reducible refine gate_callee (f := 12) rfl ?_); refine goesL_ (some 80) rfl rfl Try.func12 (by kernel_rfl) rfl #[] rfl mapx ?_; (with_reducible refine (barscanlaw37_examples.calls k2  t722 _ A61.out).mono ?_); rintro e w62 ⟨rfl, hb⟩; refine ⟨_, rfl, ?_⟩; have n0_ := Aside0.mk (Kd.N_below (by (with_reducible repeat (first | apply Kd.N_alloc | apply Kd.N_drewN | apply Kd.N_drew)); exact HO_12.out) hb); have n1_ := Aside0.mk (Kd.N_below (by (with_reducible repeat (first | apply Kd.N_alloc | apply Kd.N_drewN | apply Kd.N_drew)); exact HO_13.out) hb); have n2_ := Aside0.mk (Kd.R_below (rkx HO_711002) hb); have n3_ := Aside0.mk (blk_below (bkx BK700) hb); have n4_ := Aside0.mk (blk_below (bkx BK710) hb); have n5_ := Aside0.mk (below_step (hb2 HB GE700 GE710) hb); clear HO_12; clear HO_13; clear HO_711002; clear BK700; clear BK710; clear HB; have HO_12 := n0_; have HO_13 := n1_; have HO_711002 := n2_; have BK700 := n3_; have BK710 := n4_; have HB := n5_; clear n0_ n1_ n2_ n3_ n4_ n5_; (try clear hb); (try clear hb2); (try clear hk); (try clear hi)))
           go_ret
           exact ⟨by first | rfl | (simp [errW_none, errW_some] <;> rfl) | (simp [*, errW_none, errW_some] <;> rfl), by repeat (first | (with_reducible first | exact HB.out | apply below_alloc | apply pw_below_drewN | apply below_drew1 | refine below_set ?_ GE700.out | refine below_set ?_ GE710.out) | exact HB.out)⟩
    ·rw [if_neg c20] at H
     exact absurd H (by simp)

end Go.Proofs.Ytkakiblnhgpdnaa.PR
