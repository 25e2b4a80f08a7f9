-- Written by this session's own program (myprint.py).
import Derived.Test.YtkakiblnhgpdnaaPRx0
import Derived.Test.YtkakiblnhgpdnaaPRx7
import Derived.Test.YtkakiblnhgpdnaaPRx9
import Derived.Test.YtkakiblnhgpdnaaPRx21
import Derived.Test.YtkakiblnhgpdnaaPRx23
namespace Go.Proofs.Ytkakiblnhgpdnaa.PR
open Go.RowKit Go.Proofs.YtkakiblnhgpdnaaW.PrintWords Go.Proofs.YtkakiblnhgpdnaaW.PrintLast Go.Proofs.YtkakiblnhgpdnaaW.PrintMore Go.Proofs.Ytkakiblnhgpdnaa.XWords Go.Proofs.Ytkakiblnhgpdnaa.XShort Go.Proofs.Ytkakiblnhgpdnaa.XFn
attribute [local go_sem] max2_int min2_int max_two min_two max_three min_three max_four min_four   -- for this text's walks alone
set_option linter.unusedVariables false
set_option linter.unusedSimpArgs false

/-! ### barscanlaw37_MorphologyDuality: function 8 -/
mutual
def barscanlaw37_MorphologyDuality.l0 : Nat → Int → Int → Int → Int → Int → Int → List Bool → Int → Int → List Bool → Option (Bool)
 | 0, _, _, _, _, _, _, _, _, _, _ => none
 | k + 1, x7, x8, x42, x43, x636000, x636001, x636002, x639000, x639001, x639002 => if x43 < x42 then (if x639000 = 0 then (none) else ((raster_At.f x636000 x636001 x636002 (wrap64 ((Int.tmod x43 x639000) - x7)) (wrap64 ((wrap64 (Int.tdiv x43 x639000)) - x8))).bind fun t639 => (if x639002.length < 140737488355328 then (barscanlaw37_MorphologyDuality.l0 k x7 x8 x42 (wrap64 (x43 + 1)) x636000 x636001 x636002 x639000 x639001 (x639002 ++ [!t639])) else (none)))) else ((morphology_Erode.f k x636000 x636001 x636002 x7 x8).bind fun bt643 => ((morphology_Dilate.f k x639000 x639001 x639002 x7 x8).bind fun bt650 => (if bt643.2.2.2 = 0 then (if bt643.1 = x636000 then (if bt643.2.1 = x636001 then (if (bt643.2.2.1.length : Int) = (x636002.length : Int) then (if bt650.2.2.2 = 0 then (barscanlaw37_MorphologyDuality.l1 k x7 x8 bt643.2.2.1 (bt643.2.2.1.length : Int) 0 x636000 x636001 x636002 bt650.1 bt650.2.1 bt650.2.2.1) else (if bt650.2.2.2 = 1 then (if x639000 > 4096 then ((barscanlaw37_examples.f k).bind fun t657 => (some t657)) else (none)) else (none))) else (none)) else (none)) else (none)) else (none))))
def barscanlaw37_MorphologyDuality.l1 : Nat → Int → Int → List Bool → Int → Int → Int → Int → List Bool → Int → Int → List Bool → Option (Bool)
 | 0, _, _, _, _, _, _, _, _, _, _, _ => none
 | k + 1, x7, x8, x119, x120, x121, x636000, x636001, x636002, x657000, x657001, x657002 => if x121 < x120 then (if 0 ≤ x121 then (if x121 < (x119.length : Int) then (if x636000 = 0 then (none) else ((raster_At.f x657000 x657001 x657002 (wrap64 ((Int.tmod x121 x636000) + x7)) (wrap64 ((wrap64 (Int.tdiv x121 x636000)) + x8))).bind fun t659 => (if (t659 == (rdOf false x119 x121)) = true then (none) else (barscanlaw37_MorphologyDuality.l1 k x7 x8 x119 x120 (wrap64 (x121 + 1)) x636000 x636001 x636002 x657000 x657001 x657002)))) else (none)) else (none)) else ((barscanlaw37_examples.f k).bind fun t660 => (some t660))
end
def barscanlaw37_MorphologyDuality.f (k : Nat) (a0_0 : Int) (a0_1 : Int) (l0_2 : List Bool) (a1 : Int) (a2 : Int) : Option (Bool) := (barscanlaw37_valid.f a0_0 a0_1 l0_2).bind fun t636 => (if t636 = true then (barscanlaw37_MorphologyDuality.l0 k (wrap64 (Int.tmod a1 21)) (wrap64 (Int.tmod a2 21)) (wrap64 ((wrap64 (a0_0 + (wrap64 (2 * (wrap64 (Int.tmod a1 21)))))) * (wrap64 (a0_1 + (wrap64 (2 * (wrap64 (Int.tmod a2 21)))))))) 0 a0_0 a0_1 l0_2 (wrap64 (a0_0 + (wrap64 (2 * (wrap64 (Int.tmod a1 21)))))) (wrap64 (a0_1 + (wrap64 (2 * (wrap64 (Int.tmod a2 21)))))) ([] : List Bool)) else ((barscanlaw37_examples.f k).bind fun t637 => (some t637)))
theorem barscanlaw37_MorphologyDuality.mono_l : ∀ k, (∀ y0 y1 y2 y3 y4 y5 y6 y7 y8 y9, LeO (barscanlaw37_MorphologyDuality.l0 k y0 y1 y2 y3 y4 y5 y6 y7 y8 y9) (barscanlaw37_MorphologyDuality.l0 (k + 1) y0 y1 y2 y3 y4 y5 y6 y7 y8 y9)) ∧ (∀ y0 y1 y2 y3 y4 y5 y6 y7 y8 y9 y10, LeO (barscanlaw37_MorphologyDuality.l1 k y0 y1 y2 y3 y4 y5 y6 y7 y8 y9 y10) (barscanlaw37_MorphologyDuality.l1 (k + 1) y0 y1 y2 y3 y4 y5 y6 y7 y8 y9 y10))
 | 0 => ⟨fun _ _ _ _ _ _ _ _ _ _ r h => by simp [barscanlaw37_MorphologyDuality.l0] at h, fun _ _ _ _ _ _ _ _ _ _ _ r h => by simp [barscanlaw37_MorphologyDuality.l1] at h⟩
 | k + 1 => by
  obtain ⟨ih0, ih1⟩ := barscanlaw37_MorphologyDuality.mono_l k
  refine ⟨?_, ?_⟩
  ·intro y0 y1 y2 y3 y4 y5 y6 y7 y8 y9
   unfold barscanlaw37_MorphologyDuality.l0
   repeat' first
   | (with_reducible exact ih0 _ _ _ _ _ _ _ _ _ _)
   | (with_reducible exact ih1 _ _ _ _ _ _ _ _ _ _ _)
   | (with_reducible exact barscanlaw37_examples.mono _)
   | (with_reducible exact morphology_Dilate.mono _ _ _ _ _ _)
   | (with_reducible exact morphology_Erode.mono _ _ _ _ _ _)
   | (with_reducible exact LeO.refl _)
   | (with_reducible exact LeO.none _)
   | (with_reducible refine LeO.ite ?_ ?_)
   | (with_reducible refine LeO.bind ?_ (fun _ => ?_))
   | exact ih0 _ _ _ _ _ _ _ _ _ _
   | exact ih1 _ _ _ _ _ _ _ _ _ _ _
   | exact barscanlaw37_examples.mono _
   | exact morphology_Dilate.mono _ _ _ _ _ _
   | exact morphology_Erode.mono _ _ _ _ _ _
   | exact LeO.none _
   | refine LeO.ite ?_ ?_
   | refine LeO.bind ?_ (fun _ => ?_)
  ·intro y0 y1 y2 y3 y4 y5 y6 y7 y8 y9 y10
   unfold barscanlaw37_MorphologyDuality.l1
   repeat' first
   | (with_reducible exact ih0 _ _ _ _ _ _ _ _ _ _)
   | (with_reducible exact ih1 _ _ _ _ _ _ _ _ _ _ _)
   | (with_reducible exact barscanlaw37_examples.mono _)
   | (with_reducible exact morphology_Dilate.mono _ _ _ _ _ _)
   | (with_reducible exact morphology_Erode.mono _ _ _ _ _ _)
   | (with_reducible exact LeO.refl _)
   | (with_reducible exact LeO.none _)
   | (with_reducible refine LeO.ite ?_ ?_)
   | (with_reducible refine LeO.bind ?_ (fun _ => ?_))
   | exact ih0 _ _ _ _ _ _ _ _ _ _
   | exact ih1 _ _ _ _ _ _ _ _ _ _ _
   | exact barscanlaw37_examples.mono _
   | exact morphology_Dilate.mono _ _ _ _ _ _
   | exact morphology_Erode.mono _ _ _ _ _ _
   | exact LeO.none _
   | refine LeO.ite ?_ ?_
   | refine LeO.bind ?_ (fun _ => ?_)
theorem barscanlaw37_MorphologyDuality.mono : ∀ a0 a1 a2 a3 a4 k, LeO (barscanlaw37_MorphologyDuality.f k a0 a1 a2 a3 a4) (barscanlaw37_MorphologyDuality.f (k + 1) a0 a1 a2 a3 a4) := by
 intro a0 a1 a2 a3 a4 k
 obtain ⟨ih0, ih1⟩ := barscanlaw37_MorphologyDuality.mono_l k
 unfold barscanlaw37_MorphologyDuality.f
 repeat' first
   | (with_reducible exact ih0 _ _ _ _ _ _ _ _ _ _)
   | (with_reducible exact ih1 _ _ _ _ _ _ _ _ _ _ _)
   | (with_reducible exact barscanlaw37_examples.mono _)
   | (with_reducible exact morphology_Dilate.mono _ _ _ _ _ _)
   | (with_reducible exact morphology_Erode.mono _ _ _ _ _ _)
   | (with_reducible exact LeO.refl _)
   | (with_reducible exact LeO.none _)
   | (with_reducible refine LeO.ite ?_ ?_)
   | (with_reducible refine LeO.bind ?_ (fun _ => ?_))
   | exact ih0 _ _ _ _ _ _ _ _ _ _
   | exact ih1 _ _ _ _ _ _ _ _ _ _ _
   | exact barscanlaw37_examples.mono _
   | exact morphology_Dilate.mono _ _ _ _ _ _
   | exact morphology_Erode.mono _ _ _ _ _ _
   | exact LeO.none _
   | refine LeO.ite ?_ ?_
   | refine LeO.bind ?_ (fun _ => ?_)
def barscanlaw37_MorphologyDuality.T8 : Bool × List (List Nat × List Nat) := (true, [([], []), ([0], [0]), ([], []), ([], []), ([], []), ([4], [4]), ([3, 5], [3, 5]), ([], []), ([6, 7], [6, 7]), ([], []), ([], []), ([10], [10]), ([9, 11], [9, 11]), ([], []), ([12, 13], [12, 13]), ([2, 8, 14], [2, 8, 14]), ([15], [15]), ([16], [16]), ([1, 17, 15], [1, 17]), ([0, 1, 2, 3, 4, 5, 6, 7, 8, 9, 10, 11, 12, 13, 14, 15, 16, 17, 18], []), ([19, 18, 18, 0, 1, 2, 3, 4, 5, 6, 7, 8, 9, 10, 11, 12, 13, 14, 15, 16, 17, 18], [18, 19])])
def barscanlaw37_MorphologyDuality.B8 : List Nat := [0, 1, 0, 0, 0, 16, 56, 0, 248, 0, 0, 1024, 3584, 0, 15872, 32764, 65532, 131068, 262143, 524287, 1048575]
theorem barscanlaw37_MorphologyDuality.tab8 : rtab .any (opsOf Try.f8 8) = barscanlaw37_MorphologyDuality.T8 := by kernel_rfl
theorem barscanlaw37_MorphologyDuality.bits8 : waitsOk barscanlaw37_MorphologyDuality.T8.2 barscanlaw37_MorphologyDuality.B8 = true := by kernel_rfl
def barscanlaw37_MorphologyDuality.T19 : Bool × List (List Nat × List Nat) := (true, [([], []), ([], []), ([], []), ([2], [2]), ([1, 3], [1, 3]), ([], []), ([4, 5], [4, 5]), ([], []), ([], []), ([8], [8]), ([7, 9], [7, 9]), ([], []), ([10, 11], [10, 11]), ([0, 6, 12], [0, 6, 12]), ([], []), ([13, 14], [13, 14])])
def barscanlaw37_MorphologyDuality.B19 : List Nat := [0, 0, 0, 4, 14, 0, 62, 0, 0, 256, 896, 0, 3968, 8191, 0, 32767]
theorem barscanlaw37_MorphologyDuality.tab19 : rtab .any (opsOf Try.f8 19) = barscanlaw37_MorphologyDuality.T19 := by kernel_rfl
theorem barscanlaw37_MorphologyDuality.bits19 : waitsOk barscanlaw37_MorphologyDuality.T19.2 barscanlaw37_MorphologyDuality.B19 = true := by kernel_rfl
set_option maxHeartbeats 8000000 in
set_option maxRecDepth 100000 in
theorem barscanlaw37_MorphologyDuality.calls (k : Nat) (a0_0 : Int) (a0_1 : Int) (A0_2 : Option Addr) (c0_2 : Nat) (l0_2 : List Bool) (a1 : Int) (a2 : Int) (r : Bool) (w : World) (hr0_2 : Kd.C Kd.bool w A0_2 l0_2.length l0_2) (hc0_2 : l0_2.length ≤ c0_2) (h : barscanlaw37_MorphologyDuality.f k a0_0 a0_1 l0_2 a1 a2 = some r) :
  Calls Try.prog 8 #[.agg #[.int .i64 a0_0, .int .i64 a0_1, .slice A0_2 l0_2.length c0_2], .int .u8 a1, .int .u8 a2] w fun e w' => e = .returned (.bool r) ∧ Below w.heap.size w w' := by
 have hu24 := Try.underlying24
 have HR0_2 := Aside0.mk hr0_2
 have HC0_2 := Aside0.mk hc0_2
 clear hr0_2 hc0_2
 have HB := Aside0.mk (Below.refl w.heap.size w)
 have H : ((barscanlaw37_valid.f a0_0 a0_1 l0_2).bind fun t636 => (if t636 = true then (barscanlaw37_MorphologyDuality.l0 k (wrap64 (Int.tmod a1 21)) (wrap64 (Int.tmod a2 21)) (wrap64 ((wrap64 (a0_0 + (wrap64 (2 * (wrap64 (Int.tmod a1 21)))))) * (wrap64 (a0_1 + (wrap64 (2 * (wrap64 (Int.tmod a2 21)))))))) 0 a0_0 a0_1 l0_2 (wrap64 (a0_0 + (wrap64 (2 * (wrap64 (Int.tmod a1 21)))))) (wrap64 (a0_1 + (wrap64 (2 * (wrap64 (Int.tmod a2 21)))))) ([] : List Bool)) else ((barscanlaw37_examples.f k).bind fun t637 => (some t637)))) = some r := h
 clear h
 replace H := Option.bind_eq_some_iff.mp H
 obtain ⟨t636, A40, H⟩ := H
 replace H : (if t636 = true then (barscanlaw37_MorphologyDuality.l0 k (wrap64 (Int.tmod a1 21)) (wrap64 (Int.tmod a2 21)) (wrap64 ((wrap64 (a0_0 + (wrap64 (2 * (wrap64 (Int.tmod a1 21)))))) * (wrap64 (a0_1 + (wrap64 (2 * (wrap64 (Int.tmod a2 21)))))))) 0 a0_0 a0_1 l0_2 (wrap64 (a0_0 + (wrap64 (2 * (wrap64 (Int.tmod a1 21)))))) (wrap64 (a0_1 + (wrap64 (2 * (wrap64 (Int.tmod a2 21)))))) ([] : List Bool)) else ((barscanlaw37_examples.f k).bind fun t637 => (some t637))) = some r := H
 have A4 := Aside0.mk A40
 clear A40
 by_cases c5 : t636 = true
 ·subst c5
  have H1 : (barscanlaw37_MorphologyDuality.l0 k (wrap64 (Int.tmod a1 21)) (wrap64 (Int.tmod a2 21)) (wrap64 ((wrap64 (a0_0 + (wrap64 (2 * (wrap64 (Int.tmod a1 21)))))) * (wrap64 (a0_1 + (wrap64 (2 * (wrap64 (Int.tmod a2 21)))))))) 0 a0_0 a0_1 l0_2 (wrap64 (a0_0 + (wrap64 (2 * (wrap64 (Int.tmod a1 21)))))) (wrap64 (a0_1 + (wrap64 (2 * (wrap64 (Int.tmod a2 21)))))) ([] : List Bool)) = some r := by rw [if_pos rfl] at H; exact H
  clear H
  have H := H1
  clear H1
  have H' := Aside0.mk H
  clear H
  go_enter Try.func8, Try.ntmps8
  go_wp2_with (first | ((with_reducible refine gate_dst (N := 3) rfl ?_); (try (refine gate_guard (by rfl) ?_; dsimp only)); refine box_event ?hg (N := 3) ?hd (cs := #[.int .i64 a0_0, .int .i64 a0_1, .slice A0_2 l0_2.length c0_2]) (t := 24) ?hr ?_; (case hd => rfl); (case hg => rfl); (case hr => first | (go_simp; done) | (go_simp; rfl)); intro gb635 hg w6 hbox hb; have n0_ := Aside0.mk (below_step (hb0 HB) hb); have n1_ := Aside0.mk (hbox); have n2_ := Aside0.mk ((by rw [hg]; exact (below_size (hb0 HB)) : w.heap.size ≤ gb635)); have n3_ := Aside0.mk ((by rw [hg]; exact (below_size (hb0 HB)) : w.heap.size ≤ gb635)); clear HB; have HB := n0_; have BK635 := n1_; have GW635 := n2_; have GE635 := n3_; clear n0_ n1_ n2_ n3_; clear hb hbox hg; have hcz7_0 : w6.cell? ⟨gb635, 0, none⟩ = some (.int .i64 a0_0) := (blk_cell BK635.out 0).trans rfl; have hcz7_1 : w6.cell? ⟨gb635, 1, none⟩ = some (.int .i64 a0_1) := (blk_cell BK635.out 1).trans rfl; have hcz7_2 : w6.cell? ⟨gb635, 2, none⟩ = some (.slice A0_2 l0_2.length c0_2) := (blk_cell BK635.out 2).trans rfl; have hfz7_0 := blk_frozen BK635.out 0; have hfz7_1 := blk_frozen BK635.out 1; have hfz7_2 := blk_frozen BK635.out 2) | ((with_reducible refine gate_callee (f := 23) rfl ?_); refine goesL_ (some 24) rfl rfl Try.func23 (by kernel_rfl) rfl #[.agg #[.int .i64 a0_0, .int .i64 a0_1, .slice A0_2 l0_2.length c0_2]] rfl mapx ?_; (with_reducible refine (barscanlaw37_valid.calls a0_0 a0_1 _ _ l0_2 true _ ?side1 ?side2 A4.out).mono ?_); (case side1 => repeat (first | exact (Kd.C_below HR0_2.out HB.out) | (with_reducible refine Kd.C_alloc ?_ _) | (with_reducible refine Kd.C_drewN ?_ _) | (with_reducible refine Kd.C_drew ?_))); (case side2 => exact HC0_2.out); rintro e w8 ⟨rfl, hb⟩; refine ⟨_, rfl, ?_⟩; have n0_ := Aside0.mk (blk_below (bkx BK635) hb); have n1_ := Aside0.mk (below_step (hb1 HB GE635) hb); clear BK635; clear HB; have BK635 := n0_; have HB := n1_; clear n0_ n1_; (try clear hb); (try clear hb2); (try clear hk); (try clear hi); have hcz9_0 : w8.cell? ⟨gb635, 0, none⟩ = some (.int .i64 a0_0) := (blk_cell BK635.out 0).trans rfl; have hcz9_1 : w8.cell? ⟨gb635, 1, none⟩ = some (.int .i64 a0_1) := (blk_cell BK635.out 1).trans rfl; have hcz9_2 : w8.cell? ⟨gb635, 2, none⟩ = some (.slice A0_2 l0_2.length c0_2) := (blk_cell BK635.out 2).trans rfl; have hfz9_0 := blk_frozen BK635.out 0; have hfz9_1 := blk_frozen BK635.out 1; have hfz9_2 := blk_frozen BK635.out 2) | ((with_reducible refine gate_dst (N := 9) rfl ?_); (try (refine gate_guard (by rfl) ?_; dsimp only)); refine box_event ?hg (N := 9) ?hd (cs := #[.int .i64 0, .int .i64 0, .slice none 0 0]) (t := 24) ?hr ?_; (case hd => rfl); (case hg => rfl); (case hr => first | (go_simp; done) | (go_simp; rfl)); intro gb638 hg w10 hbox hb; have n0_ := Aside0.mk (blk_below (bkx BK635) hb); have n1_ := Aside0.mk (below_step (hb1 HB GE635) hb); have n2_ := Aside0.mk (hbox); have n3_ := Aside0.mk ((by rw [hg]; exact (below_size (hb1 HB GE635)) : w.heap.size ≤ gb638)); have n4_ := Aside0.mk ((by rw [hg]; exact (below_size (hb1 HB GE635)) : w.heap.size ≤ gb638)); have n5_ := Aside0.mk (nel hg BK635 : gb635 ≠ gb638); have n6_ := Aside0.mk (neg hg BK635 : gb638 ≠ gb635); clear BK635; clear HB; have BK635 := n0_; have HB := n1_; have BK638 := n2_; have GW638 := n3_; have GE638 := n4_; have NB635_638 := n5_; have NB638_635 := n6_; clear n0_ n1_ n2_ n3_ n4_ n5_ n6_; clear hb hbox hg; have hnb11 := NB638_635.out; have hnc11 := NB635_638.out; have hcz12_0 : w10.cell? ⟨gb638, 0, none⟩ = some (.int .i64 0) := (blk_cell BK638.out 0).trans rfl; have hcz12_1 : w10.cell? ⟨gb638, 1, none⟩ = some (.int .i64 0) := (blk_cell BK638.out 1).trans rfl; have hcz12_2 : w10.cell? ⟨gb638, 2, none⟩ = some (.slice none 0 0) := (blk_cell BK638.out 2).trans rfl; have hfz12_0 := blk_frozen BK638.out 0; have hfz12_1 := blk_frozen BK638.out 1; have hfz12_2 := blk_frozen BK638.out 2))
  go_loopg [43] k (fun kq v43 w' => ∃ (x43_1 : Int) (x639002_1 : List Bool) (u639002 : Value), v43 = .int .i64 x43_1 ∧ Aside0 (barscanlaw37_MorphologyDuality.l0 kq (wrap64 (Int.tmod a1 21)) (wrap64 (Int.tmod a2 21)) (wrap64 ((wrap64 (a0_0 + (wrap64 (2 * (wrap64 (Int.tmod a1 21)))))) * (wrap64 (a0_1 + (wrap64 (2 * (wrap64 (Int.tmod a2 21)))))))) x43_1 a0_0 a0_1 l0_2 (wrap64 (a0_0 + (wrap64 (2 * (wrap64 (Int.tmod a1 21)))))) (wrap64 (a0_1 + (wrap64 (2 * (wrap64 (Int.tmod a2 21)))))) x639002_1 = some r) ∧ Aside0 (kq ≤ k) ∧ Aside0 (Kd.R Kd.bool 4 w' w.heap.size (fun _ => True) u639002 x639002_1) ∧ Aside0 (w'.heap[gb635]? = some (.cells #[.int .i64 a0_0, .int .i64 a0_1, (.slice A0_2 l0_2.length c0_2)] 24 (0, 0))) ∧ Aside0 (w'.heap[gb638]? = some (.cells #[.int .i64 (wrap64 (a0_0 + (wrap64 (2 * (wrap64 (Int.tmod a1 21)))))), .int .i64 (wrap64 (a0_1 + (wrap64 (2 * (wrap64 (Int.tmod a2 21)))))), u639002] 24 (0, 0))) ∧ Aside0 (Below w.heap.size w w'))
  case atStart => exact ⟨(0), (([] : List Bool)), (.slice none 0 0), (by first | rfl | (simp; done) | (simp [*]; done)), H', ⟨Nat.le_refl _⟩, ⟨by first | exact Kd.R_nil _ _ _ _ _ | exact Kd.N_nil _ _ _ _ _ | exact Kd.V_nil _ _ _ _ _ | exact Kd.Q_nil _ _ _ _ _ | exact Kd.S_nil _ _ _ _ _⟩, ⟨bky BK635 NB635_638⟩, ⟨by refine bkt ?_; refine blk_put (cs := #[.int .i64 (wrap64 (a0_0 + (wrap64 (2 * (wrap64 (Int.tmod a1 21)))))), .int .i64 (wrap64 (a0_1 + (wrap64 (2 * (wrap64 (Int.tmod a2 21)))))), .slice none 0 0]) ?_ 2 _ rfl; refine bkt ?_; refine blk_put (cs := #[.int .i64 (wrap64 (a0_0 + (wrap64 (2 * (wrap64 (Int.tmod a1 21)))))), .int .i64 0, .slice none 0 0]) ?_ 1 _ rfl; refine bkt ?_; refine blk_put (cs := #[.int .i64 0, .int .i64 0, .slice none 0 0]) ?_ 0 _ rfl; refine bkt ?_; exact BK638.out⟩, ⟨hb2 HB GE635 GE638⟩⟩
  case round =>
   clear H'
   try clear c1
   try clear c2
   try clear p2
   try clear c5
   try clear p6
   try clear c8
   try clear c11
   try clear hcz12_0
   try clear hcz12_1
   try clear hcz12_2
   try clear hcz7_0
   try clear hcz7_1
   try clear hcz7_2
   try clear hcz9_0
   try clear hcz9_1
   try clear hcz9_2
   try clear hfz12_0
   try clear hfz12_1
   try clear hfz12_2
   try clear hfz7_0
   try clear hfz7_1
   try clear hfz7_2
   try clear hfz9_0
   try clear hfz9_1
   try clear hfz9_2
   obtain ⟨x43_1, x639002_1, u639002, rfl, HA, HK1, HO_639002, BK635, BK638, HB⟩ := hrel
   cases gk with
   | zero => exact absurd HA.out (by simp [barscanlaw37_MorphologyDuality.l0])
   | succ k1 =>
    have H := HA.out
    clear HA
    simp only [barscanlaw37_MorphologyDuality.l0] at H
    by_cases c13 : x43_1 < (wrap64 ((wrap64 (a0_0 + (wrap64 (2 * (wrap64 (Int.tmod a1 21)))))) * (wrap64 (a0_1 + (wrap64 (2 * (wrap64 (Int.tmod a2 21))))))))
    ·rw [if_pos c13] at H
     have c13b0 : decide (x43_1 < (wrap64 ((wrap64 (a0_0 + (wrap64 (2 * (wrap64 (Int.tmod a1 21)))))) * (wrap64 (a0_1 + (wrap64 (2 * (wrap64 (Int.tmod a2 21))))))))) = true := decide_eq_true c13
     clear c13
     by_cases c14 : (wrap64 (a0_0 + (wrap64 (2 * (wrap64 (Int.tmod a1 21)))))) = 0
     ·rw [if_pos c14] at H
      exact absurd H (by simp)
     ·rw [if_neg c14] at H
      have c14b0 : ((wrap64 (a0_0 + (wrap64 (2 * (wrap64 (Int.tmod a1 21)))))) == 0) = false := beq_eq_false_iff_ne.mpr c14
      have c14b1 : ((wrap64 (a0_0 + (wrap64 (2 * (wrap64 (Int.tmod a1 21)))))) != 0) = true := bne_iff_ne.mpr c14
      replace H := Option.bind_eq_some_iff.mp H
      obtain ⟨t639, A150, H⟩ := H
      replace H : (if x639002_1.length < 140737488355328 then (barscanlaw37_MorphologyDuality.l0 k1 (wrap64 (Int.tmod a1 21)) (wrap64 (Int.tmod a2 21)) (wrap64 ((wrap64 (a0_0 + (wrap64 (2 * (wrap64 (Int.tmod a1 21)))))) * (wrap64 (a0_1 + (wrap64 (2 * (wrap64 (Int.tmod a2 21)))))))) (wrap64 (x43_1 + 1)) a0_0 a0_1 l0_2 (wrap64 (a0_0 + (wrap64 (2 * (wrap64 (Int.tmod a1 21)))))) (wrap64 (a0_1 + (wrap64 (2 * (wrap64 (Int.tmod a2 21)))))) (x639002_1 ++ [!t639])) else (none)) = some r := H
      have A15 := Aside0.mk A150
      clear A150
      by_cases c16 : x639002_1.length < 140737488355328
      ·rw [if_pos c16] at H
       have LMc16 := Aside0.mk c16
       clear c16
       obtain ⟨y640, hy640⟩ : ∃ y_ : List Bool, y_ = (x639002_1 ++ [!t639]) := ⟨_, rfl⟩
       replace H : (barscanlaw37_MorphologyDuality.l0 k1 (wrap64 (Int.tmod a1 21)) (wrap64 (Int.tmod a2 21)) (wrap64 ((wrap64 (a0_0 + (wrap64 (2 * (wrap64 (Int.tmod a1 21)))))) * (wrap64 (a0_1 + (wrap64 (2 * (wrap64 (Int.tmod a2 21)))))))) (wrap64 (x43_1 + 1)) a0_0 a0_1 l0_2 (wrap64 (a0_0 + (wrap64 (2 * (wrap64 (Int.tmod a1 21)))))) (wrap64 (a0_1 + (wrap64 (2 * (wrap64 (Int.tmod a2 21)))))) y640) = some r := by first | (rw [hy640]; with_reducible exact H) | (have H2_ := (Option.bind_some _ _).symm.trans H; rw [hy640]; with_reducible exact H2_) | (have H2_ := (Option.bind_some _ _).symm.trans H; with_reducible exact H2_) | with_reducible exact H | (rw [hy640]; exact H) | exact H
       have Ny640 := Aside0.mk hy640
       clear hy640
       have H' := Aside0.mk H
       clear H
       try go_wp2
       have n0_ := Aside0.mk (Kd.R_drew HO_639002.out)
       have n1_ := Aside0.mk (blk_drew BK635.out)
       have n2_ := Aside0.mk (blk_drew BK638.out)
       have n3_ := Aside0.mk (below_drew1 HB.out)
       clear HO_639002
       clear BK635
       clear BK638
       clear HB
       have HO_639002 := n0_
       have BK635 := n1_
       have BK638 := n2_
       have HB := n3_
       clear n0_ n1_ n2_ n3_
       refine start_ (n := 21) (S := fun w' => w'.cell? ⟨gb638, 0, none⟩ = some (.int .i64 (wrap64 (a0_0 + (wrap64 (2 * (wrap64 (Int.tmod a1 21))))))) ∧ w'.cell? ⟨gb638, 1, none⟩ = some (.int .i64 (wrap64 (a0_1 + (wrap64 (2 * (wrap64 (Int.tmod a2 21))))))) ∧ w'.cell? ⟨gb638, 2, none⟩ = some (u639002) ∧ w'.cell? ⟨gb635, 0, none⟩ = some (.int .i64 a0_0) ∧ w'.cell? ⟨gb635, 1, none⟩ = some (.int .i64 a0_1) ∧ w'.cell? ⟨gb635, 2, none⟩ = some (.slice A0_2 l0_2.length c0_2)) (ds := [20]) (bA 21 0) (by kernel_rfl) rfl rfl ⟨(blk_cell BK638.out 0).trans rfl, (blk_cell BK638.out 1).trans rfl, (blk_cell BK638.out 2).trans rfl, (blk_cell BK635.out 0).trans rfl, (blk_cell BK635.out 1).trans rfl, (blk_cell BK635.out 2).trans rfl⟩ (fun hHeld => ?_); refine with_tabW barscanlaw37_MorphologyDuality.tab8 barscanlaw37_MorphologyDuality.bits8 (fun HT_ HW_ => ?_)
       generalize wr.drew = w17 at HO_639002 BK635 BK638 HB hHeld ⊢
       refine pt HT_ 0 46 ?_
       refine pt HT_ 3 49 ?_
       refine pt HT_ 4 50 ?_
       refine pt HT_ 7 53 ?_
       refine pt HT_ 9 55 ?_
       refine pt HT_ 10 56 ?_
       refine pt HT_ 13 59 ?_
       refine tk HT_ HW_ hHeld 1 47 ?_
       refine tk HT_ HW_ hHeld 2 48 ?_
       refine tk HT_ HW_ hHeld 5 51 ?_
       refine pt HT_ 6 52 ?_
       refine pt HT_ 8 54 ?_
       refine tk HT_ HW_ hHeld 11 57 ?_
       refine pt HT_ 12 58 ?_
       refine pt HT_ 14 60 ?_
       refine one_ (i := 15) (N := some 61) (bA 21 65535) rfl rfl (one_of HT_.out (by kernel_rfl)) (by decide) (fun K hK => ?_)
       refine goes_ Try.func28 (by kernel_rfl) rfl #[.agg #[.int .i64 a0_0, .int .i64 a0_1, .slice A0_2 l0_2.length c0_2], .int .i64 (wrap64 ((Int.tmod x43_1 (wrap64 (a0_0 + (wrap64 (2 * (wrap64 (Int.tmod a1 21))))))) - (wrap64 (Int.tmod a1 21)))), .int .i64 (wrap64 ((wrap64 (Int.tdiv x43_1 (wrap64 (a0_0 + (wrap64 (2 * (wrap64 (Int.tmod a1 21)))))))) - (wrap64 (Int.tmod a2 21))))] (by rfl) rfl rfl mapx ?_
       with_reducible refine (raster_At.calls a0_0 a0_1 _ _ l0_2 (wrap64 ((Int.tmod x43_1 (wrap64 (a0_0 + (wrap64 (2 * (wrap64 (Int.tmod a1 21))))))) - (wrap64 (Int.tmod a1 21)))) (wrap64 ((wrap64 (Int.tdiv x43_1 (wrap64 (a0_0 + (wrap64 (2 * (wrap64 (Int.tmod a1 21)))))))) - (wrap64 (Int.tmod a2 21)))) t639 _ ?side1 ?side2 A15.out).mono ?_
       (case side1 => repeat (first | exact (Kd.C_below HR0_2.out HB.out) | (with_reducible refine Kd.C_alloc ?_ _) | (with_reducible refine Kd.C_drewN ?_ _) | (with_reducible refine Kd.C_drew ?_)))
       (case side2 => exact HC0_2.out)
       rintro e w18 ⟨rfl, hb⟩
       refine ⟨_, rfl, ?_⟩
       have n0_ := Aside0.mk (Kd.R_below (rkx HO_639002) hb)
       have n1_ := Aside0.mk (blk_below (bkx BK635) hb)
       have n2_ := Aside0.mk (blk_below (bkx BK638) hb)
       have n3_ := Aside0.mk (below_step (hb2 HB GE635 GE638) hb)
       clear HO_639002
       clear BK635
       clear BK638
       clear HB
       have HO_639002 := n0_
       have BK635 := n1_
       have BK638 := n2_
       have HB := n3_
       clear n0_ n1_ n2_ n3_
       (try clear hb)
       (try clear hb2)
       (try clear hk)
       (try clear hi)
       refine hK.out _ _ ⟨(blk_cell BK638.out 0).trans rfl, (blk_cell BK638.out 1).trans rfl, (blk_cell BK638.out 2).trans rfl, (blk_cell BK635.out 0).trans rfl, (blk_cell BK635.out 1).trans rfl, (blk_cell BK635.out 2).trans rfl⟩ (fun hHeld => ?_)
       clear hK K
       refine norm_ (a' := ?_) ?_ ?_
       rotate_left
       ·show Act.put _ (some 61) _ = _
        simp only [Act.put, List.setIfInBounds_toArray, List.set_cons_zero, List.set_cons_succ, i64_w, i32_w]
        rfl
       refine pt HT_ 16 62 ?_
       refine one_ (i := 17) (N := some 63) (bA 21 262143) rfl rfl (one_of HT_.out (by kernel_rfl)) (by decide) (fun K hK => ?_)
       refine value_ (w1 := ?_) (v := ?_) (by rfl) rfl ?_ ?_
       rotate_left 2
       ·go_simp
        constructor
        ·rfl
        ·rfl
       refine hK.out _ _ ⟨(blk_cell (blk_alloc BK638.out _) 0).trans rfl, (blk_cell (blk_alloc BK638.out _) 1).trans rfl, (blk_cell (blk_alloc BK638.out _) 2).trans rfl, (blk_cell (blk_alloc BK635.out _) 0).trans rfl, (blk_cell (blk_alloc BK635.out _) 1).trans rfl, (blk_cell (blk_alloc BK635.out _) 2).trans rfl⟩ (fun hHeld => ?_)
       clear hK K
       refine norm_ (a' := ?_) ?_ ?_
       rotate_left
       ·show Act.put _ (some 63) _ = _
        simp only [Act.put, List.setIfInBounds_toArray, List.set_cons_zero, List.set_cons_succ, i64_w, i32_w]
        rfl
       refine one_ (i := 18) (N := some 64) (bA 21 524287) rfl rfl (one_of HT_.out (by kernel_rfl)) (by decide) (fun K hK => ?_)
       refine Kd.R_append_step Kd.bool (w0 := w) w.heap.size (by rfl) (.tmp 47) (.tmp 63) 22 4 (.bool false) 1 rfl Try.underlying22 info4 rfl (by decide) (by omega) u639002 x639002_1 (!t639) [.bool (!t639)] (fun _ => True) (fun _ => False) rfl rfl ?aP (fun _ hk => hk.elim) ?aF ?aO ?aB ?aS ?aL ?_
       (case aP => exact rfl)
       (case aB => exact (hb2 HB GE635 GE638))
       (case aF => exact (fun _ _ => trivial))
       (case aO => exact (rkx HO_639002))
       (case aS => exact (below_size (hb2 HB GE635 GE638)))
       (case aL => have := LMc16.out; omega)
       intro v641 w19 ho hb hg hat
       rw [← Ny640.out] at ho
       have n0_ := Aside0.mk (blk_grown (g := gb635) (o := .cells #[.int .i64 a0_0, .int .i64 a0_1, .slice A0_2 l0_2.length c0_2] 24 (0, 0)) (bkx BK635) hg (Kd.R_ne HO_639002.out BK635.out (by decide)))
       have n1_ := Aside0.mk (blk_grown (g := gb638) (o := .cells #[.int .i64 (wrap64 (a0_0 + (wrap64 (2 * (wrap64 (Int.tmod a1 21)))))), .int .i64 (wrap64 (a0_1 + (wrap64 (2 * (wrap64 (Int.tmod a2 21)))))), u639002] 24 (0, 0)) (bkx BK638) hg (Kd.R_ne HO_639002.out BK638.out (by decide)))
       have n2_ := Aside0.mk (hb)
       have n3_ := Aside0.mk (ho)
       clear BK635
       clear BK638
       clear HB
       clear HO_639002
       have BK635 := n0_
       have BK638 := n1_
       have HB := n2_
       have HO642 := n3_
       clear n0_ n1_ n2_ n3_
       clear ho hb hg hat
       obtain ⟨Ao20, co20, eo20⟩ := Kd.R_slice HO642.out
       (first | subst eo20 | (injection eo20 with f1_ f2_ f3_; have f4_ := f1_.symm; have f5_ := f3_.symm; clear f1_ f2_ f3_; subst f4_; subst f5_))
       refine hK.out _ _ ⟨(blk_cell BK638.out 0).trans rfl, (blk_cell BK638.out 1).trans rfl, (blk_cell BK638.out 2).trans rfl, (blk_cell BK635.out 0).trans rfl, (blk_cell BK635.out 1).trans rfl, (blk_cell BK635.out 2).trans rfl⟩ (fun hHeld => ?_)
       clear hK K
       refine norm_ (a' := ?_) ?_ ?_
       rotate_left
       ·show Act.put _ (some 64) _ = _
        simp only [Act.put, List.setIfInBounds_toArray, List.set_cons_zero, List.set_cons_succ, i64_w, i32_w]
        rfl
       refine pt HT_ 19 65 ?_
       refine last_ (i := 20) (N := none) (bA 21 2097151) rfl rfl (one_of HT_.out (by kernel_rfl)) (by decide) (fun K hK => ?_)
       have hs21 : w19.cell? ⟨gb638, 2, none⟩ = some (u639002) := (blk_cell BK638.out 2).trans rfl
       have hfs21 := blk_frozen BK638.out 2
       have hns21_0 := NB635_638.out
       have hms21_0 := NB638_635.out
       refine skip_ (w1 := ?_) (by rfl) rfl ?_ ?_
       rotate_left
       ·go_simp
        rfl
       refine hK.out _ _ ?_
       clear hK K
       refine done_ (done_of HT_.out (by kernel_rfl)) ?_
       try go_wp2
       go_roundg k1
       case measure => have := HK1.out; omega
       case rel => exact ⟨(wrap64 (x43_1 + 1)), (y640), (.slice Ao20 y640.length co20), (by first | rfl | (simp; done) | (simp [*]; done)), H', ⟨by have := HK1.out; omega⟩, ⟨by refine rkt ?_; exact Kd.R_mono (Kd.R_far (p := ⟨gb638, 2, none⟩) (Kd.R_types HO642.out BK638.out (by decide)) (fun _ hk => hk.2) (.slice Ao20 y640.length co20)) (fun _ hk => trivial)⟩, ⟨bky BK635 NB635_638⟩, ⟨by refine bkt ?_; refine blk_put (cs := #[.int .i64 (wrap64 (a0_0 + (wrap64 (2 * (wrap64 (Int.tmod a1 21)))))), .int .i64 (wrap64 (a0_1 + (wrap64 (2 * (wrap64 (Int.tmod a2 21)))))), u639002]) ?_ 2 _ rfl; refine bkt ?_; exact BK638.out⟩, ⟨hb2 HB GE635 GE638⟩⟩
      ·rw [if_neg c16] at H
       exact absurd H (by simp)
    ·rw [if_neg c13] at H
     have c13b0 : decide (x43_1 < (wrap64 ((wrap64 (a0_0 + (wrap64 (2 * (wrap64 (Int.tmod a1 21)))))) * (wrap64 (a0_1 + (wrap64 (2 * (wrap64 (Int.tmod a2 21))))))))) = false := decide_eq_false c13
     clear c13
     replace H := Option.bind_eq_some_iff.mp H
     obtain ⟨⟨t643, t644, t645, t648⟩, A220, H⟩ := H
     replace H : ((morphology_Dilate.f k1 (wrap64 (a0_0 + (wrap64 (2 * (wrap64 (Int.tmod a1 21)))))) (wrap64 (a0_1 + (wrap64 (2 * (wrap64 (Int.tmod a2 21)))))) x639002_1 (wrap64 (Int.tmod a1 21)) (wrap64 (Int.tmod a2 21))).bind fun bt650 => (if t648 = 0 then (if t643 = a0_0 then (if t644 = a0_1 then (if (t645.length : Int) = (l0_2.length : Int) then (if bt650.2.2.2 = 0 then (barscanlaw37_MorphologyDuality.l1 k1 (wrap64 (Int.tmod a1 21)) (wrap64 (Int.tmod a2 21)) t645 (t645.length : Int) 0 a0_0 a0_1 l0_2 bt650.1 bt650.2.1 bt650.2.2.1) else (if bt650.2.2.2 = 1 then (if (wrap64 (a0_0 + (wrap64 (2 * (wrap64 (Int.tmod a1 21)))))) > 4096 then ((barscanlaw37_examples.f k1).bind fun t657 => (some t657)) else (none)) else (none))) else (none)) else (none)) else (none)) else (none))) = some r := H
     have A22 := Aside0.mk A220
     clear A220
     replace H := Option.bind_eq_some_iff.mp H
     obtain ⟨⟨t650, t651, t652, t655⟩, A230, H⟩ := H
     replace H : (if t648 = 0 then (if t643 = a0_0 then (if t644 = a0_1 then (if (t645.length : Int) = (l0_2.length : Int) then (if t655 = 0 then (barscanlaw37_MorphologyDuality.l1 k1 (wrap64 (Int.tmod a1 21)) (wrap64 (Int.tmod a2 21)) t645 (t645.length : Int) 0 a0_0 a0_1 l0_2 t650 t651 t652) else (if t655 = 1 then (if (wrap64 (a0_0 + (wrap64 (2 * (wrap64 (Int.tmod a1 21)))))) > 4096 then ((barscanlaw37_examples.f k1).bind fun t657 => (some t657)) else (none)) else (none))) else (none)) else (none)) else (none)) else (none)) = some r := H
     have A23 := Aside0.mk A230
     clear A230
     by_cases c24 : t648 = 0
     ·rw [if_pos c24] at H
      have c24b0 : (t648 == 0) = true := beq_iff_eq.mpr c24
      have c24b1 : (t648 != 0) = false := bne_eq_false_iff_eq.mpr c24
      clear c24
      by_cases c25 : t643 = a0_0
      ·rw [if_pos c25] at H
       have c25b0 : (t643 == a0_0) = true := beq_iff_eq.mpr c25
       have c25b1 : (t643 != a0_0) = false := bne_eq_false_iff_eq.mpr c25
       clear c25
       by_cases c26 : t644 = a0_1
       ·rw [if_pos c26] at H
        have c26b0 : (t644 == a0_1) = true := beq_iff_eq.mpr c26
        have c26b1 : (t644 != a0_1) = false := bne_eq_false_iff_eq.mpr c26
        clear c26
        by_cases c27 : (t645.length : Int) = (l0_2.length : Int)
        ·rw [if_pos c27] at H
         have c27b0 : ((t645.length : Int) == (l0_2.length : Int)) = true := beq_iff_eq.mpr c27
         have c27b1 : ((t645.length : Int) != (l0_2.length : Int)) = false := bne_eq_false_iff_eq.mpr c27
         have c27b2 : (t645.length == l0_2.length) = true := by first | simpa using c27 | (simp at c27 ⊢; omega)
         clear c27
         by_cases c28 : t655 = 0
         ·rw [if_pos c28] at H
          have c28b0 : (t655 == 0) = true := beq_iff_eq.mpr c28
          have c28b1 : (t655 != 0) = false := bne_eq_false_iff_eq.mpr c28
          clear c28
          have H' := Aside0.mk H
          clear H
          have hnb29 := NB635_638.out
          have hnc29 := NB638_635.out
          have hcz30_0 : wr.cell? ⟨gb635, 0, none⟩ = some (.int .i64 a0_0) := (blk_cell BK635.out 0).trans rfl
          have hcz30_1 : wr.cell? ⟨gb635, 1, none⟩ = some (.int .i64 a0_1) := (blk_cell BK635.out 1).trans rfl
          have hcz30_2 : wr.cell? ⟨gb635, 2, none⟩ = some (.slice A0_2 l0_2.length c0_2) := (blk_cell BK635.out 2).trans rfl
          have hfz30_0 := blk_frozen BK635.out 0
          have hfz30_1 := blk_frozen BK635.out 1
          have hfz30_2 := blk_frozen BK635.out 2
          go_wp2_with (first | ((with_reducible refine gate_callee (f := 24) rfl ?_); refine goesL_ (some 71) rfl rfl Try.func24 (by kernel_rfl) rfl #[.agg #[.int .i64 a0_0, .int .i64 a0_1, .slice A0_2 l0_2.length c0_2], .int .i64 (wrap64 (Int.tmod a1 21)), .int .i64 (wrap64 (Int.tmod a2 21))] rfl mapx ?_; (with_reducible refine (morphology_Erode.calls k1 a0_0 a0_1 _ _ l0_2 (wrap64 (Int.tmod a1 21)) (wrap64 (Int.tmod a2 21)) t643 t644 t645 t648 _ ?side1 ?side2 A22.out).mono ?_); (case side1 => repeat (first | exact (Kd.C_below HR0_2.out HB.out) | (with_reducible refine Kd.C_alloc ?_ _) | (with_reducible refine Kd.C_drewN ?_ _) | (with_reducible refine Kd.C_drew ?_))); (case side2 => exact HC0_2.out); rintro e w31 ⟨v646, rfl, ho0, hb⟩; refine ⟨_, rfl, ?_⟩; have n0_ := Aside0.mk (Kd.R_elder' (rkx HO_639002) (Kd.R_base ho0) hb); have n1_ := Aside0.mk (Kd.R_lower (Kd.R_new' ho0 (Kd.R_lt (rkx HO_639002))) (below_size (hb2 HB GE635 GE638))); have n2_ := Aside0.mk (blk_below (bkx BK635) hb); have n3_ := Aside0.mk (blk_below (bkx BK638) hb); have n4_ := Aside0.mk (below_step (hb2 HB GE635 GE638) hb); clear HO_639002; clear BK635; clear BK638; clear HB; have HO_639002 := n0_; have HO647 := n1_; have BK635 := n2_; have BK638 := n3_; have HB := n4_; clear n0_ n1_ n2_ n3_ n4_; (try clear hb); (try clear hb2); (try clear hk); (try clear hi); (try clear ho0)) | ((with_reducible refine gate_dst (N := 11) rfl ?_); (try (refine gate_guard (by rfl) ?_; dsimp only)); refine box_event ?hg (N := 11) ?hd (cs := #[.int .i64 0, .int .i64 0, .slice none 0 0]) (t := 24) ?hr ?_; (case hd => rfl); (case hg => rfl); (case hr => first | (go_simp; done) | (go_simp; rfl)); intro gb649 hg w32 hbox hb; have n0_ := Aside0.mk (Kd.R_below (rkx HO_639002) hb); have n1_ := Aside0.mk (Kd.R_below (rkx HO647) hb); have n2_ := Aside0.mk (blk_below (bkx BK635) hb); have n3_ := Aside0.mk (blk_below (bkx BK638) hb); have n4_ := Aside0.mk (below_step (hb2 HB GE635 GE638) hb); have n5_ := Aside0.mk (hbox); have n6_ := Aside0.mk ((by rw [hg]; exact (below_size (hb2 HB GE635 GE638)) : w.heap.size ≤ gb649)); have n7_ := Aside0.mk ((by rw [hg]; exact (below_size (hb2 HB GE635 GE638)) : w.heap.size ≤ gb649)); have n8_ := Aside0.mk (nel hg BK635 : gb635 ≠ gb649); have n9_ := Aside0.mk (neg hg BK635 : gb649 ≠ gb635); have n10_ := Aside0.mk (nel hg BK638 : gb638 ≠ gb649); have n11_ := Aside0.mk (neg hg BK638 : gb649 ≠ gb638); clear HO_639002; clear HO647; clear BK635; clear BK638; clear HB; have HO_639002 := n0_; have HO647 := n1_; have BK635 := n2_; have BK638 := n3_; have HB := n4_; have BK649 := n5_; have GW649 := n6_; have GE649 := n7_; have NB635_649 := n8_; have NB649_635 := n9_; have NB638_649 := n10_; have NB649_638 := n11_; clear n0_ n1_ n2_ n3_ n4_ n5_ n6_ n7_ n8_ n9_ n10_ n11_; clear hb hbox hg; have hnb33 := NB649_635.out; have hnc33 := NB635_649.out; have hnb34 := NB649_638.out; have hnc34 := NB638_649.out; have hcz35_0 : w32.cell? ⟨gb649, 0, none⟩ = some (.int .i64 0) := (blk_cell BK649.out 0).trans rfl; have hcz35_1 : w32.cell? ⟨gb649, 1, none⟩ = some (.int .i64 0) := (blk_cell BK649.out 1).trans rfl; have hcz35_2 : w32.cell? ⟨gb649, 2, none⟩ = some (.slice none 0 0) := (blk_cell BK649.out 2).trans rfl; have hfz35_0 := blk_frozen BK649.out 0; have hfz35_1 := blk_frozen BK649.out 1; have hfz35_2 := blk_frozen BK649.out 2; obtain ⟨Ao36, co36, eo36⟩ := Kd.R_slice HO647.out; subst eo36; have hcz37_0 : w32.cell? ⟨gb638, 0, none⟩ = some (.int .i64 (wrap64 (a0_0 + (wrap64 (2 * (wrap64 (Int.tmod a1 21))))))) := (blk_cell BK638.out 0).trans rfl; have hcz37_1 : w32.cell? ⟨gb638, 1, none⟩ = some (.int .i64 (wrap64 (a0_1 + (wrap64 (2 * (wrap64 (Int.tmod a2 21))))))) := (blk_cell BK638.out 1).trans rfl; have hcz37_2 : w32.cell? ⟨gb638, 2, none⟩ = some (u639002) := (blk_cell BK638.out 2).trans rfl; have hfz37_0 := blk_frozen BK638.out 0; have hfz37_1 := blk_frozen BK638.out 1; have hfz37_2 := blk_frozen BK638.out 2; obtain ⟨Ao38, co38, eo38⟩ := Kd.R_slice HO_639002.out; subst eo38) | ((with_reducible refine gate_callee (f := 26) rfl ?_); refine goesL_ (some 78) rfl rfl Try.func26 (by kernel_rfl) rfl #[.agg #[.int .i64 (wrap64 (a0_0 + (wrap64 (2 * (wrap64 (Int.tmod a1 21)))))), .int .i64 (wrap64 (a0_1 + (wrap64 (2 * (wrap64 (Int.tmod a2 21)))))), .slice Ao38 x639002_1.length co38], .int .i64 (wrap64 (Int.tmod a1 21)), .int .i64 (wrap64 (Int.tmod a2 21))] rfl mapx ?_; (with_reducible refine (morphology_Dilate.calls k1 (wrap64 (a0_0 + (wrap64 (2 * (wrap64 (Int.tmod a1 21)))))) (wrap64 (a0_1 + (wrap64 (2 * (wrap64 (Int.tmod a2 21)))))) _ _ x639002_1 (wrap64 (Int.tmod a1 21)) (wrap64 (Int.tmod a2 21)) t650 t651 t652 t655 _ ?side1 ?side2 A23.out).mono ?_); (case side1 => refine (Kd.R_reads' (e := 4) (base := w.heap.size) (ok := fun k_ => (True ∧ some k_ ≠ (.slice Ao36 t645.length co36 : Value).ownBlock)) (n := x639002_1.length) (c := co38) ?_).2.2; exact (by refine rkt ?_; exact (far3 HO_639002 BK649))); (case side2 => exact (Kd.R_reads' HO_639002.out).2.1); rintro e w39 ⟨v653, rfl, ho0, hb⟩; refine ⟨_, rfl, ?_⟩; have n0_ := Aside0.mk (Kd.R_elder' (by refine rkt ?_; exact (far3 HO_639002 BK649)) (Kd.R_base ho0) hb); have n1_ := Aside0.mk (Kd.R_elder' (by refine rkt ?_; exact (far3 HO647 BK649)) (Kd.R_base ho0) hb); have n2_ := Aside0.mk (Kd.R_lower (Kd.R_new' (Kd.R_new' ho0 (Kd.R_lt (by refine rkt ?_; exact (far3 HO_639002 BK649)))) (Kd.R_lt (by refine rkt ?_; exact (far3 HO647 BK649)))) (below_size (hb3 HB GE635 GE638 GE649))); have n3_ := Aside0.mk (blk_below (g := gb635) (o := .cells #[.int .i64 a0_0, .int .i64 a0_1, .slice A0_2 l0_2.length c0_2] 24 (0, 0)) (bky BK635 NB635_649) hb); have n4_ := Aside0.mk (blk_below (g := gb638) (o := .cells #[.int .i64 (wrap64 (a0_0 + (wrap64 (2 * (wrap64 (Int.tmod a1 21)))))), .int .i64 (wrap64 (a0_1 + (wrap64 (2 * (wrap64 (Int.tmod a2 21)))))), .slice Ao38 x639002_1.length co38] 24 (0, 0)) (bky BK638 NB638_649) hb); have n5_ := Aside0.mk (blk_below (g := gb649) (o := .cells #[.int .i64 t643, .int .i64 t644, .slice Ao36 t645.length co36] 24 (0, 0)) (by refine bkt ?_; refine blk_put (cs := #[.int .i64 t643, .int .i64 t644, .slice none 0 0]) ?_ 2 _ rfl; refine bkt ?_; refine blk_put (cs := #[.int .i64 t643, .int .i64 0, .slice none 0 0]) ?_ 1 _ rfl; refine bkt ?_; refine blk_put (cs := #[.int .i64 0, .int .i64 0, .slice none 0 0]) ?_ 0 _ rfl; refine bkt ?_; exact BK649.out) hb); have n6_ := Aside0.mk (below_step (hb3 HB GE635 GE638 GE649) hb); clear HO_639002; clear HO647; clear BK635; clear BK638; clear BK649; clear HB; have HO_639002 := n0_; have HO647 := n1_; have HO654 := n2_; have BK635 := n3_; have BK638 := n4_; have BK649 := n5_; have HB := n6_; clear n0_ n1_ n2_ n3_ n4_ n5_ n6_; (try clear hb); (try clear hb2); (try clear hk); (try clear hi); (try clear ho0)) | ((with_reducible refine gate_dst (N := 13) rfl ?_); (try (refine gate_guard (by rfl) ?_; dsimp only)); refine box_event ?hg (N := 13) ?hd (cs := #[.int .i64 0, .int .i64 0, .slice none 0 0]) (t := 24) ?hr ?_; (case hd => rfl); (case hg => rfl); (case hr => first | (go_simp; done) | (go_simp; rfl)); intro gb656 hg w40 hbox hb; have n0_ := Aside0.mk (Kd.R_below (rkx HO_639002) hb); have n1_ := Aside0.mk (Kd.R_below (rkx HO647) hb); have n2_ := Aside0.mk (Kd.R_below (rkx HO654) hb); have n3_ := Aside0.mk (blk_below (bkx BK635) hb); have n4_ := Aside0.mk (blk_below (bkx BK638) hb); have n5_ := Aside0.mk (blk_below (bkx BK649) hb); have n6_ := Aside0.mk (below_step (hb3 HB GE635 GE638 GE649) hb); have n7_ := Aside0.mk (hbox); have n8_ := Aside0.mk ((by rw [hg]; exact (below_size (hb3 HB GE635 GE638 GE649)) : w.heap.size ≤ gb656)); have n9_ := Aside0.mk ((by rw [hg]; exact (below_size (hb3 HB GE635 GE638 GE649)) : w.heap.size ≤ gb656)); have n10_ := Aside0.mk (nel hg BK635 : gb635 ≠ gb656); have n11_ := Aside0.mk (neg hg BK635 : gb656 ≠ gb635); have n12_ := Aside0.mk (nel hg BK638 : gb638 ≠ gb656); have n13_ := Aside0.mk (neg hg BK638 : gb656 ≠ gb638); have n14_ := Aside0.mk (nel hg BK649 : gb649 ≠ gb656); have n15_ := Aside0.mk (neg hg BK649 : gb656 ≠ gb649); clear HO_639002; clear HO647; clear HO654; clear BK635; clear BK638; clear BK649; clear HB; have HO_639002 := n0_; have HO647 := n1_; have HO654 := n2_; have BK635 := n3_; have BK638 := n4_; have BK649 := n5_; have HB := n6_; have BK656 := n7_; have GW656 := n8_; have GE656 := n9_; have NB635_656 := n10_; have NB656_635 := n11_; have NB638_656 := n12_; have NB656_638 := n13_; have NB649_656 := n14_; have NB656_649 := n15_; clear n0_ n1_ n2_ n3_ n4_ n5_ n6_ n7_ n8_ n9_ n10_ n11_ n12_ n13_ n14_ n15_; clear hb hbox hg; have hnb41 := NB656_635.out; have hnc41 := NB635_656.out; have hnb42 := NB656_638.out; have hnc42 := NB638_656.out; have hnb43 := NB656_649.out; have hnc43 := NB649_656.out; have hcz44_0 : w40.cell? ⟨gb656, 0, none⟩ = some (.int .i64 0) := (blk_cell BK656.out 0).trans rfl; have hcz44_1 : w40.cell? ⟨gb656, 1, none⟩ = some (.int .i64 0) := (blk_cell BK656.out 1).trans rfl; have hcz44_2 : w40.cell? ⟨gb656, 2, none⟩ = some (.slice none 0 0) := (blk_cell BK656.out 2).trans rfl; have hfz44_0 := blk_frozen BK656.out 0; have hfz44_1 := blk_frozen BK656.out 1; have hfz44_2 := blk_frozen BK656.out 2; obtain ⟨Ao45, co45, eo45⟩ := Kd.R_slice HO654.out; subst eo45; have hcz46_0 : w40.cell? ⟨gb649, 0, none⟩ = some (.int .i64 t643) := (blk_cell BK649.out 0).trans rfl; have hcz46_1 : w40.cell? ⟨gb649, 1, none⟩ = some (.int .i64 t644) := (blk_cell BK649.out 1).trans rfl; have hcz46_2 : w40.cell? ⟨gb649, 2, none⟩ = some (.slice Ao36 t645.length co36) := (blk_cell BK649.out 2).trans rfl; have hfz46_0 := blk_frozen BK649.out 0; have hfz46_1 := blk_frozen BK649.out 1; have hfz46_2 := blk_frozen BK649.out 2; have hcz47_0 : w40.cell? ⟨gb635, 0, none⟩ = some (.int .i64 a0_0) := (blk_cell BK635.out 0).trans rfl; have hcz47_1 : w40.cell? ⟨gb635, 1, none⟩ = some (.int .i64 a0_1) := (blk_cell BK635.out 1).trans rfl; have hcz47_2 : w40.cell? ⟨gb635, 2, none⟩ = some (.slice A0_2 l0_2.length c0_2) := (blk_cell BK635.out 2).trans rfl; have hfz47_0 := blk_frozen BK635.out 0; have hfz47_1 := blk_frozen BK635.out 1; have hfz47_2 := blk_frozen BK635.out 2))
          go_loopg [121] k1 (fun kq v121 w' => ∃ (x121_2 : Int), v121 = .int .i64 x121_2 ∧ Aside0 (barscanlaw37_MorphologyDuality.l1 kq (wrap64 (Int.tmod a1 21)) (wrap64 (Int.tmod a2 21)) t645 (t645.length : Int) x121_2 a0_0 a0_1 l0_2 t650 t651 t652 = some r) ∧ Aside0 (kq ≤ k1) ∧ Aside0 (Kd.R Kd.bool 4 w' w.heap.size (fun k_ => some k_ ≠ ((.slice Ao38 x639002_1.length co38) : Value).ownBlock ∧ some k_ ≠ ((.slice Ao45 t652.length co45) : Value).ownBlock) (.slice Ao36 t645.length co36) t645) ∧ Aside0 (Kd.R Kd.bool 4 w' w.heap.size (fun k_ => some k_ ≠ ((.slice Ao36 t645.length co36) : Value).ownBlock ∧ some k_ ≠ ((.slice Ao36 t645.length co36) : Value).ownBlock ∧ some k_ ≠ ((.slice Ao45 t652.length co45) : Value).ownBlock) (.slice Ao38 x639002_1.length co38) x639002_1) ∧ Aside0 (Kd.R Kd.bool 4 w' w.heap.size (fun k_ => some k_ ≠ ((.slice Ao38 x639002_1.length co38) : Value).ownBlock ∧ some k_ ≠ ((.slice Ao45 t652.length co45) : Value).ownBlock) (.slice Ao36 t645.length co36) t645) ∧ Aside0 (Kd.R Kd.bool 4 w' w.heap.size (fun k_ => some k_ ≠ ((.slice Ao36 t645.length co36) : Value).ownBlock ∧ some k_ ≠ ((.slice Ao38 x639002_1.length co38) : Value).ownBlock ∧ some k_ ≠ ((.slice Ao36 t645.length co36) : Value).ownBlock) (.slice Ao45 t652.length co45) t652) ∧ Aside0 (w'.heap[gb635]? = some (.cells #[.int .i64 a0_0, .int .i64 a0_1, (.slice A0_2 l0_2.length c0_2)] 24 (0, 0))) ∧ Aside0 (w'.heap[gb638]? = some (.cells #[.int .i64 (wrap64 (a0_0 + (wrap64 (2 * (wrap64 (Int.tmod a1 21)))))), .int .i64 (wrap64 (a0_1 + (wrap64 (2 * (wrap64 (Int.tmod a2 21)))))), (.slice Ao38 x639002_1.length co38)] 24 (0, 0))) ∧ Aside0 (w'.heap[gb649]? = some (.cells #[.int .i64 t643, .int .i64 t644, (.slice Ao36 t645.length co36)] 24 (0, 0))) ∧ Aside0 (w'.heap[gb656]? = some (.cells #[.int .i64 t650, .int .i64 t651, (.slice Ao45 t652.length co45)] 24 (0, 0))) ∧ Aside0 (Below w.heap.size w w'))
          case atStart => exact ⟨(0), (by first | rfl | (simp; done) | (simp [*]; done)), H', ⟨Nat.le_refl _⟩, ⟨by refine rkt ?_; exact Kd.R_mono (Kd.R_far (p := ⟨gb656, 2, none⟩) (Kd.R_far (p := ⟨gb656, 1, none⟩) (Kd.R_far (p := ⟨gb656, 0, none⟩) (Kd.R_types HO647.out BK656.out (by decide)) (fun _ hk => hk.2) (.int .i64 t650)) (fun _ hk => hk.2) (.int .i64 t651)) (fun _ hk => hk.2) (.slice Ao45 t652.length co45)) (fun _ hk => ⟨hk.1.1.2, hk.1.2⟩)⟩, ⟨by refine rkt ?_; exact Kd.R_mono (Kd.R_far (p := ⟨gb656, 2, none⟩) (Kd.R_far (p := ⟨gb656, 1, none⟩) (Kd.R_far (p := ⟨gb656, 0, none⟩) (Kd.R_types HO_639002.out BK656.out (by decide)) (fun _ hk => hk.2) (.int .i64 t650)) (fun _ hk => hk.2) (.int .i64 t651)) (fun _ hk => hk.2) (.slice Ao45 t652.length co45)) (fun _ hk => ⟨hk.1.1.2, ⟨hk.1.1.2, hk.1.2⟩⟩)⟩, ⟨by refine rkt ?_; exact Kd.R_mono (Kd.R_far (p := ⟨gb656, 2, none⟩) (Kd.R_far (p := ⟨gb656, 1, none⟩) (Kd.R_far (p := ⟨gb656, 0, none⟩) (Kd.R_types HO647.out BK656.out (by decide)) (fun _ hk => hk.2) (.int .i64 t650)) (fun _ hk => hk.2) (.int .i64 t651)) (fun _ hk => hk.2) (.slice Ao45 t652.length co45)) (fun _ hk => ⟨hk.1.1.2, hk.1.2⟩)⟩, ⟨by refine rkt ?_; exact Kd.R_mono (Kd.R_far (p := ⟨gb656, 2, none⟩) (Kd.R_far (p := ⟨gb656, 1, none⟩) (Kd.R_far (p := ⟨gb656, 0, none⟩) (Kd.R_types HO654.out BK656.out (by decide)) (fun _ hk => hk.2) (.int .i64 t650)) (fun _ hk => hk.2) (.int .i64 t651)) (fun _ hk => hk.2) (.slice Ao45 t652.length co45)) (fun _ hk => ⟨hk.1.2, ⟨hk.1.1.2, hk.1.2⟩⟩)⟩, ⟨bky BK635 NB635_656⟩, ⟨bky BK638 NB638_656⟩, ⟨bky BK649 NB649_656⟩, ⟨by refine bkt ?_; refine blk_put (cs := #[.int .i64 t650, .int .i64 t651, .slice none 0 0]) ?_ 2 _ rfl; refine bkt ?_; refine blk_put (cs := #[.int .i64 t650, .int .i64 0, .slice none 0 0]) ?_ 1 _ rfl; refine bkt ?_; refine blk_put (cs := #[.int .i64 0, .int .i64 0, .slice none 0 0]) ?_ 0 _ rfl; refine bkt ?_; exact BK656.out⟩, ⟨hb4 HB GE635 GE638 GE649 GE656⟩⟩
          case round =>
           clear H'
           try clear c1
           try clear c2
           try clear p2
           try clear c3
           try clear c4
           try clear c5
           try clear p6
           try clear c8
           try clear c11
           try clear c13
           try clear c13b0
           try clear c14
           try clear c14b0
           try clear c14b1
           try clear c16
           try clear c23
           try clear c24
           try clear c24b0
           try clear c24b1
           try clear c25
           try clear c25b0
           try clear c25b1
           try clear c26
           try clear c26b0
           try clear c26b1
           try clear c27
           try clear c27b0
           try clear c27b1
           try clear c27b2
           try clear c28
           try clear c28b0
           try clear c28b1
           try clear c29
           try clear c33
           try clear c34
           try clear c41
           try clear c42
           try clear c43
           try clear hcz12_0
           try clear hcz12_1
           try clear hcz12_2
           try clear hcz30_0
           try clear hcz30_1
           try clear hcz30_2
           try clear hcz35_0
           try clear hcz35_1
           try clear hcz35_2
           try clear hcz37_0
           try clear hcz37_1
           try clear hcz37_2
           try clear hcz44_0
           try clear hcz44_1
           try clear hcz44_2
           try clear hcz46_0
           try clear hcz46_1
           try clear hcz46_2
           try clear hcz47_0
           try clear hcz47_1
           try clear hcz47_2
           try clear hcz7_0
           try clear hcz7_1
           try clear hcz7_2
           try clear hcz9_0
           try clear hcz9_1
           try clear hcz9_2
           try clear hfz12_0
           try clear hfz12_1
           try clear hfz12_2
           try clear hfz30_0
           try clear hfz30_1
           try clear hfz30_2
           try clear hfz35_0
           try clear hfz35_1
           try clear hfz35_2
           try clear hfz37_0
           try clear hfz37_1
           try clear hfz37_2
           try clear hfz44_0
           try clear hfz44_1
           try clear hfz44_2
           try clear hfz46_0
           try clear hfz46_1
           try clear hfz46_2
           try clear hfz47_0
           try clear hfz47_1
           try clear hfz47_2
           try clear hfz7_0
           try clear hfz7_1
           try clear hfz7_2
           try clear hfz9_0
           try clear hfz9_1
           try clear hfz9_2
           try clear p2
           try clear p6
           obtain ⟨x121_2, rfl, HA, HK2, HO_119, HO_639002, HO_650002, HO_657002, BK635, BK638, BK649, BK656, HB⟩ := hrel
           cases gk with
           | zero => exact absurd HA.out (by simp [barscanlaw37_MorphologyDuality.l1])
           | succ k2 =>
            have H := HA.out
            clear HA
            simp only [barscanlaw37_MorphologyDuality.l1] at H
            by_cases c48 : x121_2 < (t645.length : Int)
            ·rw [if_pos c48] at H
             have c48b0 : decide (x121_2 < (t645.length : Int)) = true := decide_eq_true c48
             clear c48
             by_cases c49 : 0 ≤ x121_2
             ·rw [if_pos c49] at H
              have c49b0 : decide (0 ≤ x121_2) = true := decide_eq_true c49
              clear c49
              by_cases c50 : x121_2 < (t645.length : Int)
              ·rw [if_pos c50] at H
               have c50b0 : decide (x121_2 < (t645.length : Int)) = true := decide_eq_true c50
               clear c50
               by_cases c51 : a0_0 = 0
               ·rw [if_pos c51] at H
                exact absurd H (by simp)
               ·rw [if_neg c51] at H
                have c51b0 : (a0_0 == 0) = false := beq_eq_false_iff_ne.mpr c51
                have c51b1 : (a0_0 != 0) = true := bne_iff_ne.mpr c51
                replace H := Option.bind_eq_some_iff.mp H
                obtain ⟨t659, A520, H⟩ := H
                replace H : (if (t659 == (rdOf false t645 x121_2)) = true then (none) else (barscanlaw37_MorphologyDuality.l1 k2 (wrap64 (Int.tmod a1 21)) (wrap64 (Int.tmod a2 21)) t645 (t645.length : Int) (wrap64 (x121_2 + 1)) a0_0 a0_1 l0_2 t650 t651 t652)) = some r := H
                have A52 := Aside0.mk A520
                clear A520
                by_cases c53 : (t659 == (rdOf false t645 x121_2)) = true
                ·rw [if_pos c53] at H
                 exact absurd H (by simp)
                ·rw [if_neg c53] at H
                 have c53b0 : (t659 == (rdOf false t645 x121_2)) = false := by simpa using c53
                 (try (have c53b1 : decide (t659 = (rdOf false t645 x121_2)) = false := by simpa using c53))
                 (try (have c53b2 : (t659 == (rdOf false t645 x121_2)) = false := by simpa using c53))
                 (try (have c53b3 : ¬ (t659 = (rdOf false t645 x121_2)) := by simpa using c53))
                 clear c53
                 have H' := Aside0.mk H
                 clear H
                 have p658 : 0 ≤ (x121_2 : Int) := of_decide_eq_true (by first | (with_reducible assumption) | assumption)
                 have q658 : x121_2 < (t645.length : Int) := of_decide_eq_true (by first | (with_reducible assumption) | assumption)
                 obtain ⟨ad658, e658, hx658_0⟩ := Kd.at_bool (Kd.R_reads' HO_119.out).2.2 x121_2 p658 q658
                 cases e658
                 replace p658 := eq_true p658
                 replace q658 := eq_true q658
                 try go_wp2
                 have n0_ := Aside0.mk (Kd.R_drew HO_119.out)
                 have n1_ := Aside0.mk (Kd.R_drew HO_639002.out)
                 have n2_ := Aside0.mk (Kd.R_drew HO_650002.out)
                 have n3_ := Aside0.mk (Kd.R_drew HO_657002.out)
                 have n4_ := Aside0.mk (blk_drew BK635.out)
                 have n5_ := Aside0.mk (blk_drew BK638.out)
                 have n6_ := Aside0.mk (blk_drew BK649.out)
                 have n7_ := Aside0.mk (blk_drew BK656.out)
                 have n8_ := Aside0.mk (below_drew1 HB.out)
                 clear HO_119
                 clear HO_639002
                 clear HO_650002
                 clear HO_657002
                 clear BK635
                 clear BK638
                 clear BK649
                 clear BK656
                 clear HB
                 have HO_119 := n0_
                 have HO_639002 := n1_
                 have HO_650002 := n2_
                 have HO_657002 := n3_
                 have BK635 := n4_
                 have BK638 := n5_
                 have BK649 := n6_
                 have BK656 := n7_
                 have HB := n8_
                 clear n0_ n1_ n2_ n3_ n4_ n5_ n6_ n7_ n8_
                 refine start_ (n := 16) (S := fun w' => w'.cell? ⟨gb656, 0, none⟩ = some (.int .i64 t650) ∧ w'.cell? ⟨gb656, 1, none⟩ = some (.int .i64 t651) ∧ w'.cell? ⟨gb656, 2, none⟩ = some (.slice Ao45 t652.length co45) ∧ w'.cell? ⟨gb635, 0, none⟩ = some (.int .i64 a0_0) ∧ w'.cell? ⟨gb635, 1, none⟩ = some (.int .i64 a0_1) ∧ w'.cell? ⟨gb635, 2, none⟩ = some (.slice A0_2 l0_2.length c0_2)) (ds := []) (bA 16 0) (by kernel_rfl) rfl rfl ⟨(blk_cell BK656.out 0).trans rfl, (blk_cell BK656.out 1).trans rfl, (blk_cell BK656.out 2).trans rfl, (blk_cell BK635.out 0).trans rfl, (blk_cell BK635.out 1).trans rfl, (blk_cell BK635.out 2).trans rfl⟩ (fun hHeld => ?_); refine with_tabW barscanlaw37_MorphologyDuality.tab19 barscanlaw37_MorphologyDuality.bits19 (fun HT_ HW_ => ?_)
                 generalize wr.drew = w54 at HO_119 HO_639002 HO_650002 HO_657002 BK635 BK638 BK649 BK656 HB hHeld ⊢
                 refine pt HT_ 1 127 ?_
                 refine pt HT_ 2 128 ?_
                 refine pt HT_ 5 131 ?_
                 refine pt HT_ 7 133 ?_
                 refine pt HT_ 8 134 ?_
                 refine pt HT_ 11 137 ?_
                 refine pt HT_ 14 140 ?_
                 refine tk HT_ HW_ hHeld 0 126 ?_
                 refine tk HT_ HW_ hHeld 3 129 ?_
                 refine pt HT_ 4 130 ?_
                 refine pt HT_ 6 132 ?_
                 refine tk HT_ HW_ hHeld 9 135 ?_
                 refine pt HT_ 10 136 ?_
                 refine pt HT_ 12 138 ?_
                 refine one_ (i := 13) (N := some 139) (bA 16 32767) rfl rfl (one_of HT_.out (by kernel_rfl)) (by decide) (fun K hK => ?_)
                 refine goes_ Try.func28 (by kernel_rfl) rfl #[.agg #[.int .i64 t650, .int .i64 t651, .slice Ao45 t652.length co45], .int .i64 (wrap64 ((Int.tmod x121_2 a0_0) + (wrap64 (Int.tmod a1 21)))), .int .i64 (wrap64 ((wrap64 (Int.tdiv x121_2 a0_0)) + (wrap64 (Int.tmod a2 21))))] (by rfl) rfl rfl mapx ?_
                 with_reducible refine (raster_At.calls t650 t651 _ _ t652 (wrap64 ((Int.tmod x121_2 a0_0) + (wrap64 (Int.tmod a1 21)))) (wrap64 ((wrap64 (Int.tdiv x121_2 a0_0)) + (wrap64 (Int.tmod a2 21)))) t659 _ ?side1 ?side2 A52.out).mono ?_
                 (case side1 => repeat (first | exact (Kd.R_reads' HO_657002.out).2.2 | (with_reducible refine Kd.C_alloc ?_ _) | (with_reducible refine Kd.C_drewN ?_ _) | (with_reducible refine Kd.C_drew ?_)))
                 (case side2 => exact (Kd.R_reads' HO_657002.out).2.1)
                 rintro e w55 ⟨rfl, hb⟩
                 refine ⟨_, rfl, ?_⟩
                 have n0_ := Aside0.mk (Kd.R_below (rkx HO_119) hb)
                 have n1_ := Aside0.mk (Kd.R_below (rkx HO_639002) hb)
                 have n2_ := Aside0.mk (Kd.R_below (rkx HO_650002) hb)
                 have n3_ := Aside0.mk (Kd.R_below (rkx HO_657002) hb)
                 have n4_ := Aside0.mk (blk_below (bkx BK635) hb)
                 have n5_ := Aside0.mk (blk_below (bkx BK638) hb)
                 have n6_ := Aside0.mk (blk_below (bkx BK649) hb)
                 have n7_ := Aside0.mk (blk_below (bkx BK656) hb)
                 have n8_ := Aside0.mk (below_step (hb4 HB GE635 GE638 GE649 GE656) hb)
                 clear HO_119
                 clear HO_639002
                 clear HO_650002
                 clear HO_657002
                 clear BK635
                 clear BK638
                 clear BK649
                 clear BK656
                 clear HB
                 have HO_119 := n0_
                 have HO_639002 := n1_
                 have HO_650002 := n2_
                 have HO_657002 := n3_
                 have BK635 := n4_
                 have BK638 := n5_
                 have BK649 := n6_
                 have BK656 := n7_
                 have HB := n8_
                 clear n0_ n1_ n2_ n3_ n4_ n5_ n6_ n7_ n8_
                 (try clear hb)
                 (try clear hb2)
                 (try clear hk)
                 (try clear hi)
                 refine hK.out _ _ ⟨(blk_cell BK656.out 0).trans rfl, (blk_cell BK656.out 1).trans rfl, (blk_cell BK656.out 2).trans rfl, (blk_cell BK635.out 0).trans rfl, (blk_cell BK635.out 1).trans rfl, (blk_cell BK635.out 2).trans rfl⟩ (fun hHeld => ?_)
                 clear hK K
                 refine norm_ (a' := ?_) ?_ ?_
                 rotate_left
                 ·show Act.put _ (some 139) _ = _
                  simp only [Act.put, List.setIfInBounds_toArray, List.set_cons_zero, List.set_cons_succ, i64_w, i32_w]
                  rfl
                 refine pt HT_ 15 141 ?_
                 refine done_ (done_of HT_.out (by kernel_rfl)) ?_
                 try go_wp2
                 go_roundg k2
                 case measure => have := HK1.out; have := HK2.out; omega
                 case rel => exact ⟨(wrap64 (x121_2 + 1)), (by first | rfl | (simp; done) | (simp [*]; done)), H', ⟨by have := HK1.out; have := HK2.out; omega⟩, ⟨rkx HO_119⟩, ⟨rkx HO_639002⟩, ⟨rkx HO_650002⟩, ⟨rkx HO_657002⟩, ⟨bkx BK635⟩, ⟨bkx BK638⟩, ⟨bkx BK649⟩, ⟨bkx BK656⟩, ⟨hb4 HB GE635 GE638 GE649 GE656⟩⟩
              ·rw [if_neg c50] at H
               exact absurd H (by simp)
             ·rw [if_neg c49] at H
              exact absurd H (by simp)
            ·rw [if_neg c48] at H
             have c48b0 : decide (x121_2 < (t645.length : Int)) = false := decide_eq_false c48
             clear c48
             replace H := Option.bind_eq_some_iff.mp H
             obtain ⟨t660, A560, H⟩ := H
             replace H : (some t660) = some r := H
             have A56 := Aside0.mk A560
             clear A560
             obtain rfl := Option.some.inj H
             go_wp2_with (first | ((with_reducible refine gate_callee (f := 12) rfl ?_); refine goesL_ (some 143) rfl rfl Try.func12 (by kernel_rfl) rfl #[] rfl mapx ?_; (with_reducible refine (barscanlaw37_examples.calls k2  t660 _ A56.out).mono ?_); rintro e w57 ⟨rfl, hb⟩; refine ⟨_, rfl, ?_⟩; have n0_ := Aside0.mk (Kd.R_below (rkx HO_119) hb); have n1_ := Aside0.mk (Kd.R_below (rkx HO_639002) hb); have n2_ := Aside0.mk (Kd.R_below (rkx HO_650002) hb); have n3_ := Aside0.mk (Kd.R_below (rkx HO_657002) hb); have n4_ := Aside0.mk (blk_below (bkx BK635) hb); have n5_ := Aside0.mk (blk_below (bkx BK638) hb); have n6_ := Aside0.mk (blk_below (bkx BK649) hb); have n7_ := Aside0.mk (blk_below (bkx BK656) hb); have n8_ := Aside0.mk (below_step (hb4 HB GE635 GE638 GE649 GE656) hb); clear HO_119; clear HO_639002; clear HO_650002; clear HO_657002; clear BK635; clear BK638; clear BK649; clear BK656; clear HB; have HO_119 := n0_; have HO_639002 := n1_; have HO_650002 := n2_; have HO_657002 := n3_; have BK635 := n4_; have BK638 := n5_; have BK649 := n6_; have BK656 := n7_; have HB := n8_; clear n0_ n1_ n2_ n3_ n4_ n5_ n6_ n7_ n8_; (try clear hb); (try clear hb2); (try clear hk); (try clear hi)))
             go_ret
             exact ⟨by first | rfl | (simp [errW_none, errW_some] <;> rfl) | (simp [*, errW_none, errW_some] <;> rfl), by repeat (first | (with_reducible first | exact HB.out | apply below_alloc | apply pw_below_drewN | apply below_drew1 | refine below_set ?_ GE635.out | refine below_set ?_ GE638.out | refine below_set ?_ GE649.out | refine below_set ?_ GE656.out) | exact HB.out)⟩
         ·rw [if_neg c28] at H
          have c28b0 : (t655 == 0) = false := beq_eq_false_iff_ne.mpr c28
          have c28b1 : (t655 != 0) = true := bne_iff_ne.mpr c28
          by_cases c58 : t655 = 1
          ·rw [if_pos c58] at H
           have c58b0 : (t655 == 1) = true := beq_iff_eq.mpr c58
           have c58b1 : (t655 != 1) = false := bne_eq_false_iff_eq.mpr c58
           clear c58
           by_cases c59 : (wrap64 (a0_0 + (wrap64 (2 * (wrap64 (Int.tmod a1 21)))))) > 4096
           ·rw [if_pos c59] at H
            have c59b0 : decide (4096 < (wrap64 (a0_0 + (wrap64 (2 * (wrap64 (Int.tmod a1 21))))))) = true := decide_eq_true c59
            clear c59
            replace H := Option.bind_eq_some_iff.mp H
            obtain ⟨t657, A600, H⟩ := H
            replace H : (some t657) = some r := H
            have A60 := Aside0.mk A600
            clear A600
            obtain rfl := Option.some.inj H
            have hnb61 := NB635_638.out
            have hnc61 := NB638_635.out
            have hcz62_0 : wr.cell? ⟨gb635, 0, none⟩ = some (.int .i64 a0_0) := (blk_cell BK635.out 0).trans rfl
            have hcz62_1 : wr.cell? ⟨gb635, 1, none⟩ = some (.int .i64 a0_1) := (blk_cell BK635.out 1).trans rfl
            have hcz62_2 : wr.cell? ⟨gb635, 2, none⟩ = some (.slice A0_2 l0_2.length c0_2) := (blk_cell BK635.out 2).trans rfl
            have hfz62_0 := blk_frozen BK635.out 0
            have hfz62_1 := blk_frozen BK635.out 1
            have hfz62_2 := blk_frozen BK635.out 2
            go_wp2_with (first | ((with_reducible refine gate_callee (f := 24) rfl ?_); refine goesL_ (some 71) rfl rfl Try.func24 (by kernel_rfl) rfl #[.agg #[.int .i64 a0_0, .int .i64 a0_1, .slice A0_2 l0_2.length c0_2], .int .i64 (wrap64 (Int.tmod a1 21)), .int .i64 (wrap64 (Int.tmod a2 21))] rfl mapx ?_; (with_reducible refine (morphology_Erode.calls k1 a0_0 a0_1 _ _ l0_2 (wrap64 (Int.tmod a1 21)) (wrap64 (Int.tmod a2 21)) t643 t644 t645 t648 _ ?side1 ?side2 A22.out).mono ?_); (case side1 => repeat (first | exact (Kd.C_below HR0_2.out HB.out) | (with_reducible refine Kd.C_alloc ?_ _) | (with_reducible refine Kd.C_drewN ?_ _) | (with_reducible refine Kd.C_drew ?_))); (case side2 => exact HC0_2.out); rintro e w63 ⟨v646, rfl, ho0, hb⟩; refine ⟨_, rfl, ?_⟩; have n0_ := Aside0.mk (Kd.R_elder' (rkx HO_639002) (Kd.R_base ho0) hb); have n1_ := Aside0.mk (Kd.R_lower (Kd.R_new' ho0 (Kd.R_lt (rkx HO_639002))) (below_size (hb2 HB GE635 GE638))); have n2_ := Aside0.mk (blk_below (bkx BK635) hb); have n3_ := Aside0.mk (blk_below (bkx BK638) hb); have n4_ := Aside0.mk (below_step (hb2 HB GE635 GE638) hb); clear HO_639002; clear BK635; clear BK638; clear HB; have HO_639002 := n0_; have HO647 := n1_; have BK635 := n2_; have BK638 := n3_; have HB := n4_; clear n0_ n1_ n2_ n3_ n4_; (try clear hb); (try clear hb2); (try clear hk); (try clear hi); (try clear ho0)) | ((with_reducible refine gate_dst (N := 11) rfl ?_); (try (refine gate_guard (by rfl) ?_; dsimp only)); refine box_event ?hg (N := 11) ?hd (cs := #[.int .i64 0, .int .i64 0, .slice none 0 0]) (t := 24) ?hr ?_; (case hd => rfl); (case hg => rfl); (case hr => first | (go_simp; done) | (go_simp; rfl)); intro gb649 hg w64 hbox hb; have n0_ := Aside0.mk (Kd.R_below (rkx HO_639002) hb); have n1_ := Aside0.mk (Kd.R_below (rkx HO647) hb); have n2_ := Aside0.mk (blk_below (bkx BK635) hb); have n3_ := Aside0.mk (blk_below (bkx BK638) hb); have n4_ := Aside0.mk (below_step (hb2 HB GE635 GE638) hb); have n5_ := Aside0.mk (hbox); have n6_ := Aside0.mk ((by rw [hg]; exact (below_size (hb2 HB GE635 GE638)) : w.heap.size ≤ gb649)); have n7_ := Aside0.mk ((by rw [hg]; exact (below_size (hb2 HB GE635 GE638)) : w.heap.size ≤ gb649)); have n8_ := Aside0.mk (nel hg BK635 : gb635 ≠ gb649); have n9_ := Aside0.mk (neg hg BK635 : gb649 ≠ gb635); have n10_ := Aside0.mk (nel hg BK638 : gb638 ≠ gb649); have n11_ := Aside0.mk (neg hg BK638 : gb649 ≠ gb638); clear HO_639002; clear HO647; clear BK635; clear BK638; clear HB; have HO_639002 := n0_; have HO647 := n1_; have BK635 := n2_; have BK638 := n3_; have HB := n4_; have BK649 := n5_; have GW649 := n6_; have GE649 := n7_; have NB635_649 := n8_; have NB649_635 := n9_; have NB638_649 := n10_; have NB649_638 := n11_; clear n0_ n1_ n2_ n3_ n4_ n5_ n6_ n7_ n8_ n9_ n10_ n11_; clear hb hbox hg; have hnb65 := NB649_635.out; have hnc65 := NB635_649.out; have hnb66 := NB649_638.out; have hnc66 := NB638_649.out; have hcz67_0 : w64.cell? ⟨gb649, 0, none⟩ = some (.int .i64 0) := (blk_cell BK649.out 0).trans rfl; have hcz67_1 : w64.cell? ⟨gb649, 1, none⟩ = some (.int .i64 0) := (blk_cell BK649.out 1).trans rfl; have hcz67_2 : w64.cell? ⟨gb649, 2, none⟩ = some (.slice none 0 0) := (blk_cell BK649.out 2).trans rfl; have hfz67_0 := blk_frozen BK649.out 0; have hfz67_1 := blk_frozen BK649.out 1; have hfz67_2 := blk_frozen BK649.out 2; obtain ⟨Ao68, co68, eo68⟩ := Kd.R_slice HO647.out; subst eo68; have hcz69_0 : w64.cell? ⟨gb638, 0, none⟩ = some (.int .i64 (wrap64 (a0_0 + (wrap64 (2 * (wrap64 (Int.tmod a1 21))))))) := (blk_cell BK638.out 0).trans rfl; have hcz69_1 : w64.cell? ⟨gb638, 1, none⟩ = some (.int .i64 (wrap64 (a0_1 + (wrap64 (2 * (wrap64 (Int.tmod a2 21))))))) := (blk_cell BK638.out 1).trans rfl; have hcz69_2 : w64.cell? ⟨gb638, 2, none⟩ = some (u639002) := (blk_cell BK638.out 2).trans rfl; have hfz69_0 := blk_frozen BK638.out 0; have hfz69_1 := blk_frozen BK638.out 1; have hfz69_2 := blk_frozen BK638.out 2; obtain ⟨Ao70, co70, eo70⟩ := Kd.R_slice HO_639002.out; subst eo70) | ((with_reducible refine gate_callee (f := 26) rfl ?_); refine goesL_ (some 78) rfl rfl Try.func26 (by kernel_rfl) rfl #[.agg #[.int .i64 (wrap64 (a0_0 + (wrap64 (2 * (wrap64 (Int.tmod a1 21)))))), .int .i64 (wrap64 (a0_1 + (wrap64 (2 * (wrap64 (Int.tmod a2 21)))))), .slice Ao70 x639002_1.length co70], .int .i64 (wrap64 (Int.tmod a1 21)), .int .i64 (wrap64 (Int.tmod a2 21))] rfl mapx ?_; (with_reducible refine (morphology_Dilate.calls k1 (wrap64 (a0_0 + (wrap64 (2 * (wrap64 (Int.tmod a1 21)))))) (wrap64 (a0_1 + (wrap64 (2 * (wrap64 (Int.tmod a2 21)))))) _ _ x639002_1 (wrap64 (Int.tmod a1 21)) (wrap64 (Int.tmod a2 21)) t650 t651 t652 t655 _ ?side1 ?side2 A23.out).mono ?_); (case side1 => refine (Kd.R_reads' (e := 4) (base := w.heap.size) (ok := fun k_ => (True ∧ some k_ ≠ (.slice Ao68 t645.length co68 : Value).ownBlock)) (n := x639002_1.length) (c := co70) ?_).2.2; exact (by refine rkt ?_; exact (far3 HO_639002 BK649))); (case side2 => exact (Kd.R_reads' HO_639002.out).2.1); rintro e w71 ⟨v653, rfl, ho0, hb⟩; refine ⟨_, rfl, ?_⟩; have n0_ := Aside0.mk (Kd.R_elder' (by refine rkt ?_; exact (far3 HO_639002 BK649)) (Kd.R_base ho0) hb); have n1_ := Aside0.mk (Kd.R_elder' (by refine rkt ?_; exact (far3 HO647 BK649)) (Kd.R_base ho0) hb); have n2_ := Aside0.mk (Kd.R_lower (Kd.R_new' (Kd.R_new' ho0 (Kd.R_lt (by refine rkt ?_; exact (far3 HO_639002 BK649)))) (Kd.R_lt (by refine rkt ?_; exact (far3 HO647 BK649)))) (below_size (hb3 HB GE635 GE638 GE649))); have n3_ := Aside0.mk (blk_below (g := gb635) (o := .cells #[.int .i64 a0_0, .int .i64 a0_1, .slice A0_2 l0_2.length c0_2] 24 (0, 0)) (bky BK635 NB635_649) hb); have n4_ := Aside0.mk (blk_below (g := gb638) (o := .cells #[.int .i64 (wrap64 (a0_0 + (wrap64 (2 * (wrap64 (Int.tmod a1 21)))))), .int .i64 (wrap64 (a0_1 + (wrap64 (2 * (wrap64 (Int.tmod a2 21)))))), .slice Ao70 x639002_1.length co70] 24 (0, 0)) (bky BK638 NB638_649) hb); have n5_ := Aside0.mk (blk_below (g := gb649) (o := .cells #[.int .i64 t643, .int .i64 t644, .slice Ao68 t645.length co68] 24 (0, 0)) (by refine bkt ?_; refine blk_put (cs := #[.int .i64 t643, .int .i64 t644, .slice none 0 0]) ?_ 2 _ rfl; refine bkt ?_; refine blk_put (cs := #[.int .i64 t643, .int .i64 0, .slice none 0 0]) ?_ 1 _ rfl; refine bkt ?_; refine blk_put (cs := #[.int .i64 0, .int .i64 0, .slice none 0 0]) ?_ 0 _ rfl; refine bkt ?_; exact BK649.out) hb); have n6_ := Aside0.mk (below_step (hb3 HB GE635 GE638 GE649) hb); clear HO_639002; clear HO647; clear BK635; clear BK638; clear BK649; clear HB; have HO_639002 := n0_; have HO647 := n1_; have HO654 := n2_; have BK635 := n3_; have BK638 := n4_; have BK649 := n5_; have HB := n6_; clear n0_ n1_ n2_ n3_ n4_ n5_ n6_; (try clear hb); (try clear hb2); (try clear hk); (try clear hi); (try clear ho0)) | ((with_reducible refine gate_dst (N := 13) rfl ?_); (try (refine gate_guard (by rfl) ?_; dsimp only)); refine box_event ?hg (N := 13) ?hd (cs := #[.int .i64 0, .int .i64 0, .slice none 0 0]) (t := 24) ?hr ?_; (case hd => rfl); (case hg => rfl); (case hr => first | (go_simp; done) | (go_simp; rfl)); intro gb656 hg w72 hbox hb; have n0_ := Aside0.mk (Kd.R_below (rkx HO_639002) hb); have n1_ := Aside0.mk (Kd.R_below (rkx HO647) hb); have n2_ := Aside0.mk (Kd.R_below (rkx HO654) hb); have n3_ := Aside0.mk (blk_below (bkx BK635) hb); have n4_ := Aside0.mk (blk_below (bkx BK638) hb); have n5_ := Aside0.mk (blk_below (bkx BK649) hb); have n6_ := Aside0.mk (below_step (hb3 HB GE635 GE638 GE649) hb); have n7_ := Aside0.mk (hbox); have n8_ := Aside0.mk ((by rw [hg]; exact (below_size (hb3 HB GE635 GE638 GE649)) : w.heap.size ≤ gb656)); have n9_ := Aside0.mk ((by rw [hg]; exact (below_size (hb3 HB GE635 GE638 GE649)) : w.heap.size ≤ gb656)); have n10_ := Aside0.mk (nel hg BK635 : gb635 ≠ gb656); have n11_ := Aside0.mk (neg hg BK635 : gb656 ≠ gb635); have n12_ := Aside0.mk (nel hg BK638 : gb638 ≠ gb656); have n13_ := Aside0.mk (neg hg BK638 : gb656 ≠ gb638); have n14_ := Aside0.mk (nel hg BK649 : gb649 ≠ gb656); have n15_ := Aside0.mk (neg hg BK649 : gb656 ≠ gb649); clear HO_639002; clear HO647; clear HO654; clear BK635; clear BK638; clear BK649; clear HB; have HO_639002 := n0_; have HO647 := n1_; have HO654 := n2_; have BK635 := n3_; have BK638 := n4_; have BK649 := n5_; have HB := n6_; have BK656 := n7_; have GW656 := n8_; have GE656 := n9_; have NB635_656 := n10_; have NB656_635 := n11_; have NB638_656 := n12_; have NB656_638 := n13_; have NB649_656 := n14_; have NB656_649 := n15_; clear n0_ n1_ n2_ n3_ n4_ n5_ n6_ n7_ n8_ n9_ n10_ n11_ n12_ n13_ n14_ n15_; clear hb hbox hg; have hnb73 := NB656_635.out; have hnc73 := NB635_656.out; have hnb74 := NB656_638.out; have hnc74 := NB638_656.out; have hnb75 := NB656_649.out; have hnc75 := NB649_656.out; have hcz76_0 : w72.cell? ⟨gb656, 0, none⟩ = some (.int .i64 0) := (blk_cell BK656.out 0).trans rfl; have hcz76_1 : w72.cell? ⟨gb656, 1, none⟩ = some (.int .i64 0) := (blk_cell BK656.out 1).trans rfl; have hcz76_2 : w72.cell? ⟨gb656, 2, none⟩ = some (.slice none 0 0) := (blk_cell BK656.out 2).trans rfl; have hfz76_0 := blk_frozen BK656.out 0; have hfz76_1 := blk_frozen BK656.out 1; have hfz76_2 := blk_frozen BK656.out 2; obtain ⟨Ao77, co77, eo77⟩ := Kd.R_slice HO654.out; subst eo77; have hcz78_0 : w72.cell? ⟨gb649, 0, none⟩ = some (.int .i64 t643) := (blk_cell BK649.out 0).trans rfl; have hcz78_1 : w72.cell? ⟨gb649, 1, none⟩ = some (.int .i64 t644) := (blk_cell BK649.out 1).trans rfl; have hcz78_2 : w72.cell? ⟨gb649, 2, none⟩ = some (.slice Ao68 t645.length co68) := (blk_cell BK649.out 2).trans rfl; have hfz78_0 := blk_frozen BK649.out 0; have hfz78_1 := blk_frozen BK649.out 1; have hfz78_2 := blk_frozen BK649.out 2; have hcz79_0 : w72.cell? ⟨gb635, 0, none⟩ = some (.int .i64 a0_0) := (blk_cell BK635.out 0).trans rfl; have hcz79_1 : w72.cell? ⟨gb635, 1, none⟩ = some (.int .i64 a0_1) := (blk_cell BK635.out 1).trans rfl; have hcz79_2 : w72.cell? ⟨gb635, 2, none⟩ = some (.slice A0_2 l0_2.length c0_2) := (blk_cell BK635.out 2).trans rfl; have hfz79_0 := blk_frozen BK635.out 0; have hfz79_1 := blk_frozen BK635.out 1; have hfz79_2 := blk_frozen BK635.out 2; have hcz80_0 : w72.cell? ⟨gb638, 0, none⟩ = some (.int .i64 (wrap64 (a0_0 + (wrap64 (2 * (wrap64 (Int.tmod a1 21))))))) := (blk_cell BK638.out 0).trans rfl; have hcz80_1 : w72.cell? ⟨gb638, 1, none⟩ = some (.int .i64 (wrap64 (a0_1 + (wrap64 (2 * (wrap64 (Int.tmod a2 21))))))) := (blk_cell BK638.out 1).trans rfl; have hcz80_2 : w72.cell? ⟨gb638, 2, none⟩ = some (.slice Ao70 x639002_1.length co70) := (blk_cell BK638.out 2).trans rfl; have hfz80_0 := blk_frozen BK638.out 0; have hfz80_1 := blk_frozen BK638.out 1; have hfz80_2 := blk_frozen BK638.out 2) | (go_at_call 12; (with_reducible refine (barscanlaw37_examples.calls k1  t657 _ A60.out).mono ?_); rintro e w81 ⟨rfl, hb⟩; have n0_ := Aside0.mk (Kd.R_below (by refine rkt ?_; exact (far3 HO_639002 BK656)) hb); have n1_ := Aside0.mk (Kd.R_below (by refine rkt ?_; exact (far3 HO647 BK656)) hb); have n2_ := Aside0.mk (Kd.R_below (by refine rkt ?_; exact (far3 HO654 BK656)) hb); have n3_ := Aside0.mk (blk_below (g := gb635) (o := .cells #[.int .i64 a0_0, .int .i64 a0_1, .slice A0_2 l0_2.length c0_2] 24 (0, 0)) (bky BK635 NB635_656) hb); have n4_ := Aside0.mk (blk_below (g := gb638) (o := .cells #[.int .i64 (wrap64 (a0_0 + (wrap64 (2 * (wrap64 (Int.tmod a1 21)))))), .int .i64 (wrap64 (a0_1 + (wrap64 (2 * (wrap64 (Int.tmod a2 21)))))), .slice Ao70 x639002_1.length co70] 24 (0, 0)) (bky BK638 NB638_656) hb); have n5_ := Aside0.mk (blk_below (g := gb649) (o := .cells #[.int .i64 t643, .int .i64 t644, .slice Ao68 t645.length co68] 24 (0, 0)) (bky BK649 NB649_656) hb); have n6_ := Aside0.mk (blk_below (g := gb656) (o := .cells #[.int .i64 t650, .int .i64 t651, .slice Ao77 t652.length co77] 24 (0, 0)) (by refine bkt ?_; refine blk_put (cs := #[.int .i64 t650, .int .i64 t651, .slice none 0 0]) ?_ 2 _ rfl; refine bkt ?_; refine blk_put (cs := #[.int .i64 t650, .int .i64 0, .slice none 0 0]) ?_ 1 _ rfl; refine bkt ?_; refine blk_put (cs := #[.int .i64 0, .int .i64 0, .slice none 0 0]) ?_ 0 _ rfl; refine bkt ?_; exact BK656.out) hb); have n7_ := Aside0.mk (below_step (hb4 HB GE635 GE638 GE649 GE656) hb); clear HO_639002; clear HO647; clear HO654; clear BK635; clear BK638; clear BK649; clear BK656; clear HB; have HO_639002 := n0_; have HO647 := n1_; have HO654 := n2_; have BK635 := n3_; have BK638 := n4_; have BK649 := n5_; have BK656 := n6_; have HB := n7_; clear n0_ n1_ n2_ n3_ n4_ n5_ n6_ n7_; (try clear hb); (try clear hb2); (try clear hk); (try clear hi)))
            go_ret
            exact ⟨by first | rfl | (simp [errW_none, errW_some] <;> rfl) | (simp [*, errW_none, errW_some] <;> rfl), by repeat (first | (with_reducible first | exact HB.out | apply below_alloc | apply pw_below_drewN | apply below_drew1 | refine below_set ?_ GE635.out | refine below_set ?_ GE638.out | refine below_set ?_ GE649.out | refine below_set ?_ GE656.out) | exact HB.out)⟩
           ·rw [if_neg c59] at H
            exact absurd H (by simp)
          ·rw [if_neg c58] at H
           exact absurd H (by simp)
        ·rw [if_neg c27] at H
         exact absurd H (by simp)
       ·rw [if_neg c26] at H
        exact absurd H (by simp)
      ·rw [if_neg c25] at H
       exact absurd H (by simp)
     ·rw [if_neg c24] at H
      exact absurd H (by simp)
 ·replace c5 := Bool.eq_false_iff.mpr c5
  subst c5
  have H1 : ((barscanlaw37_examples.f k).bind fun t637 => (some t637)) = some r := by rw [if_neg (show ¬ (false = true) by decide)] at H; exact H
  clear H
  have H := H1
  clear H1
  replace H := Option.bind_eq_some_iff.mp H
  obtain ⟨t637, A820, H⟩ := H
  replace H : (some t637) = some r := H
  have A82 := Aside0.mk A820
  clear A820
  obtain rfl := Option.some.inj H
  go_enter Try.func8, Try.ntmps8
  go_wp2_with (first | ((with_reducible refine gate_dst (N := 3) rfl ?_); (try (refine gate_guard (by rfl) ?_; dsimp only)); refine box_event ?hg (N := 3) ?hd (cs := #[.int .i64 a0_0, .int .i64 a0_1, .slice A0_2 l0_2.length c0_2]) (t := 24) ?hr ?_; (case hd => rfl); (case hg => rfl); (case hr => first | (go_simp; done) | (go_simp; rfl)); intro gb635 hg w83 hbox hb; have n0_ := Aside0.mk (below_step (hb0 HB) hb); have n1_ := Aside0.mk (hbox); have n2_ := Aside0.mk ((by rw [hg]; exact (below_size (hb0 HB)) : w.heap.size ≤ gb635)); have n3_ := Aside0.mk ((by rw [hg]; exact (below_size (hb0 HB)) : w.heap.size ≤ gb635)); clear HB; have HB := n0_; have BK635 := n1_; have GW635 := n2_; have GE635 := n3_; clear n0_ n1_ n2_ n3_; clear hb hbox hg; have hcz84_0 : w83.cell? ⟨gb635, 0, none⟩ = some (.int .i64 a0_0) := (blk_cell BK635.out 0).trans rfl; have hcz84_1 : w83.cell? ⟨gb635, 1, none⟩ = some (.int .i64 a0_1) := (blk_cell BK635.out 1).trans rfl; have hcz84_2 : w83.cell? ⟨gb635, 2, none⟩ = some (.slice A0_2 l0_2.length c0_2) := (blk_cell BK635.out 2).trans rfl; have hfz84_0 := blk_frozen BK635.out 0; have hfz84_1 := blk_frozen BK635.out 1; have hfz84_2 := blk_frozen BK635.out 2) | ((with_reducible refine gate_callee (f := 23) rfl ?_); refine goesL_ (some 24) rfl rfl Try.func23 (by kernel_rfl) rfl #[.agg #[.int .i64 a0_0, .int .i64 a0_1, .slice A0_2 l0_2.length c0_2]] rfl mapx ?_; (with_reducible refine (barscanlaw37_valid.calls a0_0 a0_1 _ _ l0_2 false _ ?side1 ?side2 A4.out).mono ?_); (case side1 => repeat (first | exact (Kd.C_below HR0_2.out HB.out) | (with_reducible refine Kd.C_alloc ?_ _) | (with_reducible refine Kd.C_drewN ?_ _) | (with_reducible refine Kd.C_drew ?_))); (case side2 => exact HC0_2.out); rintro e w85 ⟨rfl, hb⟩; refine ⟨_, rfl, ?_⟩; have n0_ := Aside0.mk (blk_below (bkx BK635) hb); have n1_ := Aside0.mk (below_step (hb1 HB GE635) hb); clear BK635; clear HB; have BK635 := n0_; have HB := n1_; clear n0_ n1_; (try clear hb); (try clear hb2); (try clear hk); (try clear hi)) | ((with_reducible refine gate_callee (f := 12) rfl ?_); refine goesL_ (some 26) rfl rfl Try.func12 (by kernel_rfl) rfl #[] rfl mapx ?_; (with_reducible refine (barscanlaw37_examples.calls k  t637 _ A82.out).mono ?_); rintro e w86 ⟨rfl, hb⟩; refine ⟨_, rfl, ?_⟩; have n0_ := Aside0.mk (blk_below (bkx BK635) hb); have n1_ := Aside0.mk (below_step (hb1 HB GE635) hb); clear BK635; clear HB; have BK635 := n0_; have HB := n1_; clear n0_ n1_; (try clear hb); (try clear hb2); (try clear hk); (try clear hi)))
  go_ret
  exact ⟨by first | rfl | (simp [errW_none, errW_some] <;> rfl) | (simp [*, errW_none, errW_some] <;> rfl), by repeat (first | (with_reducible first | exact HB.out | apply below_alloc | apply pw_below_drewN | apply below_drew1 | refine below_set ?_ GE635.out) | exact HB.out)⟩

end Go.Proofs.Ytkakiblnhgpdnaa.PR
