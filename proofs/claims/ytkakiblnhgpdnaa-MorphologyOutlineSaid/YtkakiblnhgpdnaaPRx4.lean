-- Written by this session's own program (myprint.py).
import Derived.Test.YtkakiblnhgpdnaaPRx0
import Derived.Test.YtkakiblnhgpdnaaPRx1
import Derived.Test.YtkakiblnhgpdnaaPRx3
namespace Go.Proofs.Ytkakiblnhgpdnaa.PR
open Go.RowKit Go.Proofs.YtkakiblnhgpdnaaW.PrintWords Go.Proofs.YtkakiblnhgpdnaaW.PrintLast Go.Proofs.YtkakiblnhgpdnaaW.PrintMore Go.Proofs.Ytkakiblnhgpdnaa.XWords Go.Proofs.Ytkakiblnhgpdnaa.XShort Go.Proofs.Ytkakiblnhgpdnaa.XFn
attribute [local go_sem] max2_int min2_int max_two min_two max_three min_three max_four min_four   -- for this text's walks alone
set_option linter.unusedVariables false
set_option linter.unusedSimpArgs false

/-! ### morphology_plane_transform_46: function 37 -/
mutual
def morphology_plane_transform_46.l0 : Nat → Int → Int → List Int → Int → Int → Int → Int → Int → Int → Int → List Bool → Int → Int → Int → Int → List Bool → Option (Int × Int × Int × Int × List Bool)
 | 0, _, _, _, _, _, _, _, _, _, _, _, _, _, _, _, _ => none
 | k + 1, x1, x2, x9, x11, x35, x36, x135000, x135001, x135002, x135003, x135004, x140000, x140001, x140002, x140003, x140004 => if x36 < x35 then (morphology_plane_transform_46.l1 k x1 x2 x9 x11 x36 (mx 0 (wrap64 (x36 - x2))) (mn x135001 (wrap64 ((wrap64 (x36 + x2)) + 1))) x35 x36 x135000 0 x135000 x135001 x135002 x135003 x135004 x140000 x140001 x140002 x140003 x140004) else (some (x140000, x140001, x140002, x140003, x140004))
def morphology_plane_transform_46.l1 : Nat → Int → Int → List Int → Int → Int → Int → Int → Int → Int → Int → Int → Int → Int → Int → Int → List Bool → Int → Int → Int → Int → List Bool → Option (Int × Int × Int × Int × List Bool)
 | 0, _, _, _, _, _, _, _, _, _, _, _, _, _, _, _, _, _, _, _, _, _ => none
 | k + 1, x1, x2, x9, x11, x12, x13, x14, x35, x36, x51, x52, x135000, x135001, x135002, x135003, x135004, x140000, x140001, x140002, x140003, x140004 => if x52 < x51 then (if 0 ≤ (wrap64 ((wrap64 (x14 * (wrap64 (x135000 + 1)))) + (mn x135000 (wrap64 ((wrap64 (x52 + x1)) + 1))))) then (if (wrap64 ((wrap64 (x14 * (wrap64 (x135000 + 1)))) + (mn x135000 (wrap64 ((wrap64 (x52 + x1)) + 1))))) < (x9.length : Int) then (if 0 ≤ (wrap64 ((wrap64 (x13 * (wrap64 (x135000 + 1)))) + (mn x135000 (wrap64 ((wrap64 (x52 + x1)) + 1))))) then (if (wrap64 ((wrap64 (x13 * (wrap64 (x135000 + 1)))) + (mn x135000 (wrap64 ((wrap64 (x52 + x1)) + 1))))) < (x9.length : Int) then (if 0 ≤ (wrap64 ((wrap64 (x14 * (wrap64 (x135000 + 1)))) + (mx 0 (wrap64 (x52 - x1))))) then (if (wrap64 ((wrap64 (x14 * (wrap64 (x135000 + 1)))) + (mx 0 (wrap64 (x52 - x1))))) < (x9.length : Int) then (if 0 ≤ (wrap64 ((wrap64 (x13 * (wrap64 (x135000 + 1)))) + (mx 0 (wrap64 (x52 - x1))))) then (if (wrap64 ((wrap64 (x13 * (wrap64 (x135000 + 1)))) + (mx 0 (wrap64 (x52 - x1))))) < (x9.length : Int) then ((morphology_erosion_1.f (wrap64 ((wrap64 ((wrap64 ((rd x9 (wrap64 ((wrap64 (x14 * (wrap64 (x135000 + 1)))) + (mn x135000 (wrap64 ((wrap64 (x52 + x1)) + 1)))))) - (rd x9 (wrap64 ((wrap64 (x13 * (wrap64 (x135000 + 1)))) + (mn x135000 (wrap64 ((wrap64 (x52 + x1)) + 1)))))))) - (rd x9 (wrap64 ((wrap64 (x14 * (wrap64 (x135000 + 1)))) + (mx 0 (wrap64 (x52 - x1)))))))) + (rd x9 (wrap64 ((wrap64 (x13 * (wrap64 (x135000 + 1)))) + (mx 0 (wrap64 (x52 - x1)))))))) x11).bind fun t147 => (if 0 ≤ (wrap64 ((wrap64 (x12 * x135000)) + x52)) then (if (wrap64 ((wrap64 (x12 * x135000)) + x52)) < (x140004.length : Int) then (morphology_plane_transform_46.l1 k x1 x2 x9 x11 x12 x13 x14 x35 x36 x51 (wrap64 (x52 + 1)) x135000 x135001 x135002 x135003 x135004 x140000 x140001 x140002 x140003 (x140004.set ((wrap64 ((wrap64 (x12 * x135000)) + x52)) : Int).toNat t147)) else (none)) else (none))) else (none)) else (none)) else (none)) else (none)) else (none)) else (none)) else (none)) else (none)) else (morphology_plane_transform_46.l0 k x1 x2 x9 x11 x35 (wrap64 (x36 + 1)) x135000 x135001 x135002 x135003 x135004 x140000 x140001 x140002 x140003 x140004)
end
def morphology_plane_transform_46.f (k : Nat) (a0_0 : Int) (a0_1 : Int) (a0_2 : Int) (a0_3 : Int) (l0_4 : List Bool) (a1 : Int) (a2 : Int)  : Option (Int × Int × Int × Int × List Bool) := (morphology_plane_sums.f k a0_0 a0_1 a0_2 a0_3 l0_4).bind fun t136 => (if 0 ≤ (l0_4.length : Int) then (if ((l0_4.length : Int) : Int).toNat ≤ 281474976710656 then (morphology_plane_transform_46.l0 k a1 a2 t136 (wrap64 ((wrap64 ((wrap64 (2 * a1)) + 1)) * (wrap64 ((wrap64 (2 * a2)) + 1)))) a0_1 0 a0_0 a0_1 a0_2 a0_3 l0_4 a0_0 a0_1 a0_2 a0_3 (List.replicate ((l0_4.length : Int) : Int).toNat false)) else (none)) else (none))
theorem morphology_plane_transform_46.mono_l : ∀ k, (∀ y0 y1 y2 y3 y4 y5 y6 y7 y8 y9 y10 y11 y12 y13 y14 y15, LeO (morphology_plane_transform_46.l0 k y0 y1 y2 y3 y4 y5 y6 y7 y8 y9 y10 y11 y12 y13 y14 y15) (morphology_plane_transform_46.l0 (k + 1) y0 y1 y2 y3 y4 y5 y6 y7 y8 y9 y10 y11 y12 y13 y14 y15)) ∧ (∀ y0 y1 y2 y3 y4 y5 y6 y7 y8 y9 y10 y11 y12 y13 y14 y15 y16 y17 y18 y19 y20, LeO (morphology_plane_transform_46.l1 k y0 y1 y2 y3 y4 y5 y6 y7 y8 y9 y10 y11 y12 y13 y14 y15 y16 y17 y18 y19 y20) (morphology_plane_transform_46.l1 (k + 1) y0 y1 y2 y3 y4 y5 y6 y7 y8 y9 y10 y11 y12 y13 y14 y15 y16 y17 y18 y19 y20))
 | 0 => ⟨fun _ _ _ _ _ _ _ _ _ _ _ _ _ _ _ _ r h => by simp [morphology_plane_transform_46.l0] at h, fun _ _ _ _ _ _ _ _ _ _ _ _ _ _ _ _ _ _ _ _ _ r h => by simp [morphology_plane_transform_46.l1] at h⟩
 | k + 1 => by
  obtain ⟨ih0, ih1⟩ := morphology_plane_transform_46.mono_l k
  refine ⟨?_, ?_⟩
  ·intro y0 y1 y2 y3 y4 y5 y6 y7 y8 y9 y10 y11 y12 y13 y14 y15
   unfold morphology_plane_transform_46.l0
   repeat' first
   | (with_reducible exact ih0 _ _ _ _ _ _ _ _ _ _ _ _ _ _ _ _)
   | (with_reducible exact ih1 _ _ _ _ _ _ _ _ _ _ _ _ _ _ _ _ _ _ _ _ _)
   | (with_reducible exact morphology_plane_sums.mono _ _ _ _ _ _)
   | (with_reducible exact LeO.refl _)
   | (with_reducible exact LeO.none _)
   | (with_reducible refine LeO.ite ?_ ?_)
   | (with_reducible refine LeO.bind ?_ (fun _ => ?_))
   | exact ih0 _ _ _ _ _ _ _ _ _ _ _ _ _ _ _ _
   | exact ih1 _ _ _ _ _ _ _ _ _ _ _ _ _ _ _ _ _ _ _ _ _
   | exact morphology_plane_sums.mono _ _ _ _ _ _
   | exact LeO.none _
   | refine LeO.ite ?_ ?_
   | refine LeO.bind ?_ (fun _ => ?_)
  ·intro y0 y1 y2 y3 y4 y5 y6 y7 y8 y9 y10 y11 y12 y13 y14 y15 y16 y17 y18 y19 y20
   unfold morphology_plane_transform_46.l1
   repeat' first
   | (with_reducible exact ih0 _ _ _ _ _ _ _ _ _ _ _ _ _ _ _ _)
   | (with_reducible exact ih1 _ _ _ _ _ _ _ _ _ _ _ _ _ _ _ _ _ _ _ _ _)
   | (with_reducible exact morphology_plane_sums.mono _ _ _ _ _ _)
   | (with_reducible exact LeO.refl _)
   | (with_reducible exact LeO.none _)
   | (with_reducible refine LeO.ite ?_ ?_)
   | (with_reducible refine LeO.bind ?_ (fun _ => ?_))
   | exact ih0 _ _ _ _ _ _ _ _ _ _ _ _ _ _ _ _
   | exact ih1 _ _ _ _ _ _ _ _ _ _ _ _ _ _ _ _ _ _ _ _ _
   | exact morphology_plane_sums.mono _ _ _ _ _ _
   | exact LeO.none _
   | refine LeO.ite ?_ ?_
   | refine LeO.bind ?_ (fun _ => ?_)
theorem morphology_plane_transform_46.mono : ∀ a0 a1 a2 a3 a4 a5 a6 k, LeO (morphology_plane_transform_46.f k a0 a1 a2 a3 a4 a5 a6) (morphology_plane_transform_46.f (k + 1) a0 a1 a2 a3 a4 a5 a6) := by
 intro a0 a1 a2 a3 a4 a5 a6 k
 obtain ⟨ih0, ih1⟩ := morphology_plane_transform_46.mono_l k
 unfold morphology_plane_transform_46.f
 repeat' first
   | (with_reducible exact ih0 _ _ _ _ _ _ _ _ _ _ _ _ _ _ _ _)
   | (with_reducible exact ih1 _ _ _ _ _ _ _ _ _ _ _ _ _ _ _ _ _ _ _ _ _)
   | (with_reducible exact morphology_plane_sums.mono _ _ _ _ _ _)
   | (with_reducible exact LeO.refl _)
   | (with_reducible exact LeO.none _)
   | (with_reducible refine LeO.ite ?_ ?_)
   | (with_reducible refine LeO.bind ?_ (fun _ => ?_))
   | exact ih0 _ _ _ _ _ _ _ _ _ _ _ _ _ _ _ _
   | exact ih1 _ _ _ _ _ _ _ _ _ _ _ _ _ _ _ _ _ _ _ _ _
   | exact morphology_plane_sums.mono _ _ _ _ _ _
   | exact LeO.none _
   | refine LeO.ite ?_ ?_
   | refine LeO.bind ?_ (fun _ => ?_)
def morphology_plane_transform_46.T8 : Bool × List (List Nat × List Nat) := (true, [([], []), ([], []), ([0, 1], [0, 1]), ([2], [2]), ([], []), ([4], [4]), ([], []), ([], []), ([6, 7], [6, 7]), ([8], [8]), ([5, 9], [5, 9]), ([3, 0, 1, 2, 3], [3]), ([10, 11, 0, 1, 2, 3, 4, 5, 6, 7, 8, 9, 10, 11], [10])])
def morphology_plane_transform_46.B8 : List Nat := [0, 0, 3, 7, 0, 16, 0, 0, 192, 448, 1008, 15, 4095]
theorem morphology_plane_transform_46.tab8 : rtab .any (opsOf Try.f37 8) = morphology_plane_transform_46.T8 := by kernel_rfl
theorem morphology_plane_transform_46.bits8 : waitsOk morphology_plane_transform_46.T8.2 morphology_plane_transform_46.B8 = true := by kernel_rfl
def morphology_plane_transform_46.T12 : Bool × List (List Nat × List Nat) := (true, [([], []), ([], []), ([0, 1], [0, 1]), ([2], [2]), ([], []), ([4], [4]), ([], []), ([], []), ([6, 7], [6, 7]), ([8], [8]), ([5, 9], [5, 9]), ([3, 0, 1, 2, 3], [3]), ([10, 11, 0, 1, 2, 3, 4, 5, 6, 7, 8, 9, 10, 11], [10])])
def morphology_plane_transform_46.B12 : List Nat := [0, 0, 3, 7, 0, 16, 0, 0, 192, 448, 1008, 15, 4095]
theorem morphology_plane_transform_46.tab12 : rtab .any (opsOf Try.f37 12) = morphology_plane_transform_46.T12 := by kernel_rfl
theorem morphology_plane_transform_46.bits12 : waitsOk morphology_plane_transform_46.T12.2 morphology_plane_transform_46.B12 = true := by kernel_rfl
def morphology_plane_transform_46.T13 : Bool × List (List Nat × List Nat) := (true, [([], []), ([], []), ([], []), ([2], [2]), ([3], [3]), ([1, 4], [1, 4]), ([], []), ([5, 6], [5, 6]), ([0, 7], [0, 7]), ([8], [8]), ([], []), ([], []), ([], []), ([12], [12]), ([13], [13]), ([11, 14], [11, 14]), ([], []), ([15, 16], [15, 16]), ([10, 17], [10, 17]), ([18], [18]), ([9, 19], [9, 19]), ([], []), ([], []), ([], []), ([23], [23]), ([24], [24]), ([22, 25], [22, 25]), ([], []), ([26, 27], [26, 27]), ([21, 28], [21, 28]), ([29], [29]), ([20, 30], [20, 30]), ([], []), ([], []), ([], []), ([34], [34]), ([35], [35]), ([33, 36], [33, 36]), ([], []), ([37, 38], [37, 38]), ([32, 39], [32, 39]), ([40], [40]), ([31, 41], [31, 41]), ([42, 0, 1, 2, 3, 4, 5, 6, 7, 8, 9, 10, 11, 12, 13, 14, 15, 16, 17, 18, 19, 20, 21, 22, 23, 24, 25, 26, 27, 28, 29, 30, 31, 32, 33, 34, 35, 36, 37, 38, 39, 40, 41, 42], [42])])
def morphology_plane_transform_46.B13 : List Nat := [0, 0, 0, 4, 12, 30, 0, 126, 255, 511, 0, 0, 0, 4096, 12288, 30720, 0, 129024, 261120, 523264, 1048575, 0, 0, 0, 8388608, 25165824, 62914560, 0, 264241152, 534773760, 1071644672, 2147483647, 0, 0, 0, 17179869184, 51539607552, 128849018880, 0, 541165879296, 1095216660480, 2194728288256, 4398046511103, 8796093022207]
theorem morphology_plane_transform_46.tab13 : rtab .any (opsOf Try.f37 13) = morphology_plane_transform_46.T13 := by kernel_rfl
theorem morphology_plane_transform_46.bits13 : waitsOk morphology_plane_transform_46.T13.2 morphology_plane_transform_46.B13 = true := by kernel_rfl
def morphology_plane_transform_46.T14 : Bool × List (List Nat × List Nat) := (true, [([], []), ([0], [0]), ([], []), ([], []), ([3], [3]), ([2, 4], [2, 4]), ([], []), ([5, 6], [5, 6]), ([], []), ([], []), ([], []), ([8, 9, 10], [8, 9, 10]), ([1, 7, 0, 1, 2, 3, 4, 5, 6, 7, 8, 9, 10, 11], [1, 7]), ([12, 11, 11, 0, 1, 2, 3, 4, 5, 6, 7, 8, 9, 10, 11], [11, 12])])
def morphology_plane_transform_46.B14 : List Nat := [0, 1, 0, 0, 8, 28, 0, 124, 0, 0, 0, 1792, 4095, 8191]
theorem morphology_plane_transform_46.tab14 : rtab .any (opsOf Try.f37 14) = morphology_plane_transform_46.T14 := by kernel_rfl
theorem morphology_plane_transform_46.bits14 : waitsOk morphology_plane_transform_46.T14.2 morphology_plane_transform_46.B14 = true := by kernel_rfl
set_option maxHeartbeats 8000000 in
set_option maxRecDepth 100000 in
theorem morphology_plane_transform_46.calls (k : Nat) (a0_0 : Int) (a0_1 : Int) (a0_2 : Int) (a0_3 : Int) (A0_4 : Option Addr) (c0_4 : Nat) (l0_4 : List Bool) (a1 : Int) (a2 : Int)  (r1 : Int) (r2 : Int) (r3 : Int) (r4 : Int) (r5 : List Bool) (w : World) (hr0_4 : Kd.C Kd.bool w A0_4 l0_4.length l0_4) (hc0_4 : l0_4.length ≤ c0_4) (h : morphology_plane_transform_46.f k a0_0 a0_1 a0_2 a0_3 l0_4 a1 a2 = some (r1, r2, r3, r4, r5)) :
  Calls Try.prog 37 #[.agg #[.int .i64 a0_0, .int .i64 a0_1, .int .i64 a0_2, .int .i64 a0_3, .slice A0_4 l0_4.length c0_4], .int .i64 a1, .int .i64 a2, .func (.func 46) #[] #[]] w fun e w' => ∃ v4_ : Value, e = .returned (.agg #[.int .i64 r1, .int .i64 r2, .int .i64 r3, .int .i64 r4, v4_]) ∧ Kd.R Kd.bool 4 w' w.heap.size (fun _ => True) v4_ r5 ∧ Below w.heap.size w w' := by
 have hu50 := Try.underlying50
 have HR0_4 := Aside0.mk hr0_4
 have HC0_4 := Aside0.mk hc0_4
 clear hr0_4 hc0_4
 have HB := Aside0.mk (Below.refl w.heap.size w)
 have H : ((morphology_plane_sums.f k a0_0 a0_1 a0_2 a0_3 l0_4).bind fun t136 => (if 0 ≤ (l0_4.length : Int) then (if ((l0_4.length : Int) : Int).toNat ≤ 281474976710656 then (morphology_plane_transform_46.l0 k a1 a2 t136 (wrap64 ((wrap64 ((wrap64 (2 * a1)) + 1)) * (wrap64 ((wrap64 (2 * a2)) + 1)))) a0_1 0 a0_0 a0_1 a0_2 a0_3 l0_4 a0_0 a0_1 a0_2 a0_3 (List.replicate ((l0_4.length : Int) : Int).toNat false)) else (none)) else (none))) = some (r1, r2, r3, r4, r5) := h
 clear h
 replace H := Option.bind_eq_some_iff.mp H
 obtain ⟨t136, A50, H⟩ := H
 replace H : (if 0 ≤ (l0_4.length : Int) then (if ((l0_4.length : Int) : Int).toNat ≤ 281474976710656 then (morphology_plane_transform_46.l0 k a1 a2 t136 (wrap64 ((wrap64 ((wrap64 (2 * a1)) + 1)) * (wrap64 ((wrap64 (2 * a2)) + 1)))) a0_1 0 a0_0 a0_1 a0_2 a0_3 l0_4 a0_0 a0_1 a0_2 a0_3 (List.replicate ((l0_4.length : Int) : Int).toNat false)) else (none)) else (none)) = some (r1, r2, r3, r4, r5) := H
 have A5 := Aside0.mk A50
 clear A50
 by_cases c6 : 0 ≤ (l0_4.length : Int)
 ·rw [if_pos c6] at H
  have c6b0 := eq_true c6
  have c6b1 : decide (0 ≤ (l0_4.length : Int)) = true := decide_eq_true c6
  clear c6
  by_cases c7 : ((l0_4.length : Int) : Int).toNat ≤ 281474976710656
  ·rw [if_pos c7] at H
   have c7b0 := eq_true c7
   have c7b1 : decide (((l0_4.length : Int) : Int).toNat ≤ 281474976710656) = true := decide_eq_true c7
   clear c7
   obtain ⟨y140, hy140⟩ : ∃ y_ : List Bool, y_ = (List.replicate ((l0_4.length : Int) : Int).toNat false) := ⟨_, rfl⟩
   replace H : (morphology_plane_transform_46.l0 k a1 a2 t136 (wrap64 ((wrap64 ((wrap64 (2 * a1)) + 1)) * (wrap64 ((wrap64 (2 * a2)) + 1)))) a0_1 0 a0_0 a0_1 a0_2 a0_3 l0_4 a0_0 a0_1 a0_2 a0_3 y140) = some (r1, r2, r3, r4, r5) := by first | (rw [hy140]; with_reducible exact H) | (have H2_ := (Option.bind_some _ _).symm.trans H; rw [hy140]; with_reducible exact H2_) | (have H2_ := (Option.bind_some _ _).symm.trans H; with_reducible exact H2_) | with_reducible exact H | (rw [hy140]; exact H) | exact H
   have Ny140 := Aside0.mk hy140
   clear hy140
   have H' := Aside0.mk H
   clear H
   go_enter Try.func37, Try.ntmps37
   go_wp2_with (first | ((with_reducible refine gate_dst (N := 4) rfl ?_); refine box_event ?hg (N := 4) ?hd (cs := #[.int .i64 a0_0, .int .i64 a0_1, .int .i64 a0_2, .int .i64 a0_3, .slice A0_4 l0_4.length c0_4]) (t := 50) ?hr ?_; (case hd => rfl); (case hg => rfl); (case hr => first | (go_simp; done) | (go_simp; rfl)); intro gb134 hg w8 hbox hb; have n0_ := Aside0.mk (below_step (hb0 HB) hb); have n1_ := Aside0.mk (hbox); have n2_ := Aside0.mk ((by rw [hg]; exact (below_size (hb0 HB)) : w.heap.size ≤ gb134)); have n3_ := Aside0.mk ((by rw [hg]; exact (below_size (hb0 HB)) : w.heap.size ≤ gb134)); clear HB; have HB := n0_; have BK134 := n1_; have GW134 := n2_; have GE134 := n3_; clear n0_ n1_ n2_ n3_; clear hb hbox hg) | ((with_reducible refine gate_dst (N := 8) rfl ?_); refine box_event ?hg (N := 8) ?hd (cs := #[.int .i64 0, .int .i64 0, .int .i64 0, .int .i64 0, .slice none 0 0]) (t := 50) ?hr ?_; (case hd => rfl); (case hg => rfl); (case hr => first | (go_simp; done) | (go_simp; rfl)); intro gb135 hg w9 hbox hb; have n0_ := Aside0.mk (blk_below (bkx BK134) hb); have n1_ := Aside0.mk (below_step (hb1 HB GE134) hb); have n2_ := Aside0.mk (hbox); have n3_ := Aside0.mk ((by rw [hg]; exact (below_size (hb1 HB GE134)) : w.heap.size ≤ gb135)); have n4_ := Aside0.mk ((by rw [hg]; exact (below_size (hb1 HB GE134)) : w.heap.size ≤ gb135)); have n5_ := Aside0.mk (nel hg BK134 : gb134 ≠ gb135); have n6_ := Aside0.mk (neg hg BK134 : gb135 ≠ gb134); clear BK134; clear HB; have BK134 := n0_; have HB := n1_; have BK135 := n2_; have GW135 := n3_; have GE135 := n4_; have NB134_135 := n5_; have NB135_134 := n6_; clear n0_ n1_ n2_ n3_ n4_ n5_ n6_; clear hb hbox hg; have hnb10 := NB134_135.out; have hnc10 := NB135_134.out; have hcz11_0 : w9.cell? ⟨gb134, 0, none⟩ = some (.int .i64 a0_0) := (blk_cell BK134.out 0).trans rfl; have hcz11_1 : w9.cell? ⟨gb134, 1, none⟩ = some (.int .i64 a0_1) := (blk_cell BK134.out 1).trans rfl; have hcz11_2 : w9.cell? ⟨gb134, 2, none⟩ = some (.int .i64 a0_2) := (blk_cell BK134.out 2).trans rfl; have hcz11_3 : w9.cell? ⟨gb134, 3, none⟩ = some (.int .i64 a0_3) := (blk_cell BK134.out 3).trans rfl; have hcz11_4 : w9.cell? ⟨gb134, 4, none⟩ = some (.slice A0_4 l0_4.length c0_4) := (blk_cell BK134.out 4).trans rfl; have hfz11_0 := blk_frozen BK134.out 0; have hfz11_1 := blk_frozen BK134.out 1; have hfz11_2 := blk_frozen BK134.out 2; have hfz11_3 := blk_frozen BK134.out 3; have hfz11_4 := blk_frozen BK134.out 4) | ((with_reducible refine gate_callee (f := 51) rfl ?_); refine goesL_ (some 20) rfl rfl Try.func51 (by kernel_rfl) rfl #[.agg #[.int .i64 a0_0, .int .i64 a0_1, .int .i64 a0_2, .int .i64 a0_3, .slice A0_4 l0_4.length c0_4]] rfl mapx ?_; (with_reducible refine (morphology_plane_sums.calls k a0_0 a0_1 a0_2 a0_3 _ _ l0_4 t136 _ ?side1 ?side2 A5.out).mono ?_); (case side1 => repeat (first | exact (Kd.C_below HR0_4.out HB.out) | (with_reducible refine Kd.C_alloc ?_ _) | (with_reducible refine Kd.C_drewN ?_ _) | (with_reducible refine Kd.C_drew ?_))); (case side2 => exact HC0_4.out); rintro e w12 ⟨v137, rfl, ho0, hb⟩; refine ⟨_, rfl, ?_⟩; have n0_ := Aside0.mk (Kd.R_lower ho0 (below_size (hb2 HB GE134 GE135))); have n1_ := Aside0.mk (blk_below (bkx BK134) hb); have n2_ := Aside0.mk (blk_below (bkx BK135) hb); have n3_ := Aside0.mk (below_step (hb2 HB GE134 GE135) hb); clear BK134; clear BK135; clear HB; have HO138 := n0_; have BK134 := n1_; have BK135 := n2_; have HB := n3_; clear n0_ n1_ n2_ n3_; (try clear hb); (try clear hb2); (try clear hk); (try clear hi); (try clear ho0); have hcz13_0 : w12.cell? ⟨gb134, 0, none⟩ = some (.int .i64 a0_0) := (blk_cell BK134.out 0).trans rfl; have hcz13_1 : w12.cell? ⟨gb134, 1, none⟩ = some (.int .i64 a0_1) := (blk_cell BK134.out 1).trans rfl; have hcz13_2 : w12.cell? ⟨gb134, 2, none⟩ = some (.int .i64 a0_2) := (blk_cell BK134.out 2).trans rfl; have hcz13_3 : w12.cell? ⟨gb134, 3, none⟩ = some (.int .i64 a0_3) := (blk_cell BK134.out 3).trans rfl; have hcz13_4 : w12.cell? ⟨gb134, 4, none⟩ = some (.slice A0_4 l0_4.length c0_4) := (blk_cell BK134.out 4).trans rfl; have hfz13_0 := blk_frozen BK134.out 0; have hfz13_1 := blk_frozen BK134.out 1; have hfz13_2 := blk_frozen BK134.out 2; have hfz13_3 := blk_frozen BK134.out 3; have hfz13_4 := blk_frozen BK134.out 4) | ((with_reducible refine gate_dst (N := 10) rfl ?_); refine box_event ?hg (N := 10) ?hd (cs := #[.int .i64 0, .int .i64 0, .int .i64 0, .int .i64 0, .slice none 0 0]) (t := 50) ?hr ?_; (case hd => rfl); (case hg => rfl); (case hr => first | (go_simp; done) | (go_simp; rfl)); intro gb139 hg w14 hbox hb; have n0_ := Aside0.mk (Kd.R_below (rkx HO138) hb); have n1_ := Aside0.mk (blk_below (bkx BK134) hb); have n2_ := Aside0.mk (blk_below (bkx BK135) hb); have n3_ := Aside0.mk (below_step (hb2 HB GE134 GE135) hb); have n4_ := Aside0.mk (hbox); have n5_ := Aside0.mk ((by rw [hg]; exact (below_size (hb2 HB GE134 GE135)) : w.heap.size ≤ gb139)); have n6_ := Aside0.mk ((by rw [hg]; exact (below_size (hb2 HB GE134 GE135)) : w.heap.size ≤ gb139)); have n7_ := Aside0.mk (nel hg BK134 : gb134 ≠ gb139); have n8_ := Aside0.mk (neg hg BK134 : gb139 ≠ gb134); have n9_ := Aside0.mk (nel hg BK135 : gb135 ≠ gb139); have n10_ := Aside0.mk (neg hg BK135 : gb139 ≠ gb135); clear HO138; clear BK134; clear BK135; clear HB; have HO138 := n0_; have BK134 := n1_; have BK135 := n2_; have HB := n3_; have BK139 := n4_; have GW139 := n5_; have GE139 := n6_; have NB134_139 := n7_; have NB139_134 := n8_; have NB135_139 := n9_; have NB139_135 := n10_; clear n0_ n1_ n2_ n3_ n4_ n5_ n6_ n7_ n8_ n9_ n10_; clear hb hbox hg; have hnb15 := NB139_134.out; have hnc15 := NB134_139.out; have hnb16 := NB139_135.out; have hnc16 := NB135_139.out; have hcz17_0 : w14.cell? ⟨gb139, 0, none⟩ = some (.int .i64 0) := (blk_cell BK139.out 0).trans rfl; have hcz17_1 : w14.cell? ⟨gb139, 1, none⟩ = some (.int .i64 0) := (blk_cell BK139.out 1).trans rfl; have hcz17_2 : w14.cell? ⟨gb139, 2, none⟩ = some (.int .i64 0) := (blk_cell BK139.out 2).trans rfl; have hcz17_3 : w14.cell? ⟨gb139, 3, none⟩ = some (.int .i64 0) := (blk_cell BK139.out 3).trans rfl; have hcz17_4 : w14.cell? ⟨gb139, 4, none⟩ = some (.slice none 0 0) := (blk_cell BK139.out 4).trans rfl; have hfz17_0 := blk_frozen BK139.out 0; have hfz17_1 := blk_frozen BK139.out 1; have hfz17_2 := blk_frozen BK139.out 2; have hfz17_3 := blk_frozen BK139.out 3; have hfz17_4 := blk_frozen BK139.out 4; have hcz18_0 : w14.cell? ⟨gb134, 0, none⟩ = some (.int .i64 a0_0) := (blk_cell BK134.out 0).trans rfl; have hcz18_1 : w14.cell? ⟨gb134, 1, none⟩ = some (.int .i64 a0_1) := (blk_cell BK134.out 1).trans rfl; have hcz18_2 : w14.cell? ⟨gb134, 2, none⟩ = some (.int .i64 a0_2) := (blk_cell BK134.out 2).trans rfl; have hcz18_3 : w14.cell? ⟨gb134, 3, none⟩ = some (.int .i64 a0_3) := (blk_cell BK134.out 3).trans rfl; have hcz18_4 : w14.cell? ⟨gb134, 4, none⟩ = some (.slice A0_4 l0_4.length c0_4) := (blk_cell BK134.out 4).trans rfl; have hfz18_0 := blk_frozen BK134.out 0; have hfz18_1 := blk_frozen BK134.out 1; have hfz18_2 := blk_frozen BK134.out 2; have hfz18_3 := blk_frozen BK134.out 3; have hfz18_4 := blk_frozen BK134.out 4) | ((with_reducible refine gate_dst (N := 25) rfl ?_); refine Kd.R_make Kd.bool _ 4 rfl (N := 25) rfl 22 _ _ rfl (l0_4.length : Int) rfl rfl Try.underlying22 (.bool false) 1 info4 rfl (by decide) (by omega) false (ok := fun _ => True) (okp := fun _ => True) rfl (fun _ hk => hk) trivial (of_decide_eq_true (by first | (with_reducible assumption) | assumption)) (Nat.le_trans (Nat.mul_le_mul_right _ (of_decide_eq_true (by first | (with_reducible assumption) | assumption) : (l0_4.length : Int).toNat ≤ 281474976710656)) (by omega)) (Below.refl _ _) (Nat.le_refl _) ?_; intro v141 w19 ho20 hb hg_ hnew_; clear hg_ hnew_; (first | rw [← Ny140.out] at ho20 | (simp only [Int.reduceToNat] at ho20; rw [← Ny140.out] at ho20)); have n0_ := Aside0.mk (Kd.R_below (by refine rkt ?_; exact (Kd.R_mono (Kd.R_far (p := ⟨gb139, 4, none⟩) (Kd.R_far (p := ⟨gb139, 3, none⟩) (Kd.R_far (p := ⟨gb139, 2, none⟩) (Kd.R_far (p := ⟨gb139, 1, none⟩) (Kd.R_far (p := ⟨gb139, 0, none⟩) (Kd.R_types HO138.out BK139.out (by decide)) (fun _ hk => hk.2) (.int .i64 a0_0)) (fun _ hk => hk.2) (.int .i64 a0_1)) (fun _ hk => hk.2) (.int .i64 a0_2)) (fun _ hk => hk.2) (.int .i64 a0_3)) (fun _ hk => hk.2) (.slice A0_4 l0_4.length c0_4)) (fun _ h_ => h_.1))) hb); have n1_ := Aside0.mk (Kd.R_lower ho20 (below_size (hb3 HB GE134 GE135 GE139))); have n2_ := Aside0.mk (blk_below (g := gb134) (o := .cells #[.int .i64 a0_0, .int .i64 a0_1, .int .i64 a0_2, .int .i64 a0_3, .slice A0_4 l0_4.length c0_4] 50 (0, 0)) (bky BK134 NB134_139) hb); have n3_ := Aside0.mk (blk_below (g := gb135) (o := .cells #[.int .i64 0, .int .i64 0, .int .i64 0, .int .i64 0, .slice none 0 0] 50 (0, 0)) (bky BK135 NB135_139) hb); have n4_ := Aside0.mk (blk_below (g := gb139) (o := .cells #[.int .i64 a0_0, .int .i64 a0_1, .int .i64 a0_2, .int .i64 a0_3, .slice A0_4 l0_4.length c0_4] 50 (0, 0)) (by refine bkt ?_; refine blk_put (cs := #[.int .i64 a0_0, .int .i64 a0_1, .int .i64 a0_2, .int .i64 a0_3, .slice none 0 0]) ?_ 4 _ rfl; refine bkt ?_; refine blk_put (cs := #[.int .i64 a0_0, .int .i64 a0_1, .int .i64 a0_2, .int .i64 0, .slice none 0 0]) ?_ 3 _ rfl; refine bkt ?_; refine blk_put (cs := #[.int .i64 a0_0, .int .i64 a0_1, .int .i64 0, .int .i64 0, .slice none 0 0]) ?_ 2 _ rfl; refine bkt ?_; refine blk_put (cs := #[.int .i64 a0_0, .int .i64 0, .int .i64 0, .int .i64 0, .slice none 0 0]) ?_ 1 _ rfl; refine bkt ?_; refine blk_put (cs := #[.int .i64 0, .int .i64 0, .int .i64 0, .int .i64 0, .slice none 0 0]) ?_ 0 _ rfl; refine bkt ?_; exact BK139.out) hb); have n5_ := Aside0.mk (below_step (hb3 HB GE134 GE135 GE139) hb); clear HO138; clear BK134; clear BK135; clear BK139; clear HB; have HO138 := n0_; have HO142 := n1_; have BK134 := n2_; have BK135 := n3_; have BK139 := n4_; have HB := n5_; clear n0_ n1_ n2_ n3_ n4_ n5_; clear hb ho20; obtain ⟨Ao21, co21, eo21⟩ := Kd.R_slice HO142.out; subst eo21; have hcz22_0 : w19.cell? ⟨gb139, 0, none⟩ = some (.int .i64 a0_0) := (blk_cell BK139.out 0).trans rfl; have hcz22_1 : w19.cell? ⟨gb139, 1, none⟩ = some (.int .i64 a0_1) := (blk_cell BK139.out 1).trans rfl; have hcz22_2 : w19.cell? ⟨gb139, 2, none⟩ = some (.int .i64 a0_2) := (blk_cell BK139.out 2).trans rfl; have hcz22_3 : w19.cell? ⟨gb139, 3, none⟩ = some (.int .i64 a0_3) := (blk_cell BK139.out 3).trans rfl; have hcz22_4 : w19.cell? ⟨gb139, 4, none⟩ = some (.slice A0_4 l0_4.length c0_4) := (blk_cell BK139.out 4).trans rfl; have hfz22_0 := blk_frozen BK139.out 0; have hfz22_1 := blk_frozen BK139.out 1; have hfz22_2 := blk_frozen BK139.out 2; have hfz22_3 := blk_frozen BK139.out 3; have hfz22_4 := blk_frozen BK139.out 4; have hcz23_0 : w19.cell? ⟨gb134, 0, none⟩ = some (.int .i64 a0_0) := (blk_cell BK134.out 0).trans rfl; have hcz23_1 : w19.cell? ⟨gb134, 1, none⟩ = some (.int .i64 a0_1) := (blk_cell BK134.out 1).trans rfl; have hcz23_2 : w19.cell? ⟨gb134, 2, none⟩ = some (.int .i64 a0_2) := (blk_cell BK134.out 2).trans rfl; have hcz23_3 : w19.cell? ⟨gb134, 3, none⟩ = some (.int .i64 a0_3) := (blk_cell BK134.out 3).trans rfl; have hcz23_4 : w19.cell? ⟨gb134, 4, none⟩ = some (.slice A0_4 l0_4.length c0_4) := (blk_cell BK134.out 4).trans rfl; have hfz23_0 := blk_frozen BK134.out 0; have hfz23_1 := blk_frozen BK134.out 1; have hfz23_2 := blk_frozen BK134.out 2; have hfz23_3 := blk_frozen BK134.out 3; have hfz23_4 := blk_frozen BK134.out 4))
   go_loopg [36] k (fun kq v36 w' => ∃ (x36_1 : Int) (x140004_1 : List Bool) (u140004 : Value), v36 = .int .i64 x36_1 ∧ Aside0 (morphology_plane_transform_46.l0 kq a1 a2 t136 (wrap64 ((wrap64 ((wrap64 (2 * a1)) + 1)) * (wrap64 ((wrap64 (2 * a2)) + 1)))) a0_1 x36_1 a0_0 a0_1 a0_2 a0_3 l0_4 a0_0 a0_1 a0_2 a0_3 x140004_1 = some (r1, r2, r3, r4, r5)) ∧ Aside0 (kq ≤ k) ∧ Aside0 (Kd.R (Kd.int .i64) 3 w' w.heap.size (fun _ => True) v137 t136) ∧ Aside0 (Kd.R Kd.bool 4 w' w.heap.size (fun _ => True) u140004 x140004_1) ∧ Aside0 (w'.heap[gb134]? = some (.cells #[.int .i64 a0_0, .int .i64 a0_1, .int .i64 a0_2, .int .i64 a0_3, (.slice A0_4 l0_4.length c0_4)] 50 (0, 0))) ∧ Aside0 (w'.heap[gb135]? = some (.cells #[.int .i64 0, .int .i64 0, .int .i64 0, .int .i64 0, (.slice none 0 0)] 50 (0, 0))) ∧ Aside0 (w'.heap[gb139]? = some (.cells #[.int .i64 a0_0, .int .i64 a0_1, .int .i64 a0_2, .int .i64 a0_3, u140004] 50 (0, 0))) ∧ Aside0 (Below w.heap.size w w'))
   case atStart => exact ⟨(0), (y140), (.slice Ao21 y140.length co21), (by first | rfl | (simp; done) | (simp [*]; done)), H', ⟨Nat.le_refl _⟩, ⟨by refine rkt ?_; exact Kd.R_mono (Kd.R_far (p := ⟨gb139, 4, none⟩) (Kd.R_types HO138.out BK139.out (by decide)) (fun _ hk => hk.2) (.slice Ao21 y140.length co21)) (fun _ hk => trivial)⟩, ⟨by refine rkt ?_; exact Kd.R_mono (Kd.R_far (p := ⟨gb139, 4, none⟩) (Kd.R_types HO142.out BK139.out (by decide)) (fun _ hk => hk.2) (.slice Ao21 y140.length co21)) (fun _ hk => trivial)⟩, ⟨bky BK134 NB134_139⟩, ⟨bky BK135 NB135_139⟩, ⟨by refine bkt ?_; refine blk_put (cs := #[.int .i64 a0_0, .int .i64 a0_1, .int .i64 a0_2, .int .i64 a0_3, .slice A0_4 l0_4.length c0_4]) ?_ 4 _ rfl; refine bkt ?_; exact BK139.out⟩, ⟨hb3 HB GE134 GE135 GE139⟩⟩
   case round =>
    clear H'
    try clear c1
    try clear p2
    try clear c3
    try clear c5
    try clear c6
    try clear c6b0
    try clear c6b1
    try clear p6
    try clear c7
    try clear c7b0
    try clear c7b1
    try clear c10
    try clear c15
    try clear c16
    try clear hcz11_0
    try clear hcz11_1
    try clear hcz11_2
    try clear hcz11_3
    try clear hcz11_4
    try clear hcz13_0
    try clear hcz13_1
    try clear hcz13_2
    try clear hcz13_3
    try clear hcz13_4
    try clear hcz17_0
    try clear hcz17_1
    try clear hcz17_2
    try clear hcz17_3
    try clear hcz17_4
    try clear hcz18_0
    try clear hcz18_1
    try clear hcz18_2
    try clear hcz18_3
    try clear hcz18_4
    try clear hcz22_0
    try clear hcz22_1
    try clear hcz22_2
    try clear hcz22_3
    try clear hcz22_4
    try clear hcz23_0
    try clear hcz23_1
    try clear hcz23_2
    try clear hcz23_3
    try clear hcz23_4
    try clear hfz11_0
    try clear hfz11_1
    try clear hfz11_2
    try clear hfz11_3
    try clear hfz11_4
    try clear hfz13_0
    try clear hfz13_1
    try clear hfz13_2
    try clear hfz13_3
    try clear hfz13_4
    try clear hfz17_0
    try clear hfz17_1
    try clear hfz17_2
    try clear hfz17_3
    try clear hfz17_4
    try clear hfz18_0
    try clear hfz18_1
    try clear hfz18_2
    try clear hfz18_3
    try clear hfz18_4
    try clear hfz22_0
    try clear hfz22_1
    try clear hfz22_2
    try clear hfz22_3
    try clear hfz22_4
    try clear hfz23_0
    try clear hfz23_1
    try clear hfz23_2
    try clear hfz23_3
    try clear hfz23_4
    obtain ⟨x36_1, x140004_1, u140004, rfl, HA, HK1, HO_9, HO_140004, BK134, BK135, BK139, HB⟩ := hrel
    cases gk with
    | zero => exact absurd HA.out (by simp [morphology_plane_transform_46.l0])
    | succ k1 =>
     have H := HA.out
     clear HA
     simp only [morphology_plane_transform_46.l0] at H
     by_cases c24 : x36_1 < a0_1
     ·rw [if_pos c24] at H
      have c24b0 : decide (x36_1 < a0_1) = true := decide_eq_true c24
      clear c24
      obtain ⟨ji25, hji25⟩ : ∃ j_ : Int, (mx 0 (wrap64 (x36_1 - a2))) = j_ := ⟨_, rfl⟩
      replace H : (morphology_plane_transform_46.l1 k1 a1 a2 t136 (wrap64 ((wrap64 ((wrap64 (2 * a1)) + 1)) * (wrap64 ((wrap64 (2 * a2)) + 1)))) x36_1 ji25 (mn a0_1 (wrap64 ((wrap64 (x36_1 + a2)) + 1))) a0_1 x36_1 a0_0 0 a0_0 a0_1 a0_2 a0_3 l0_4 a0_0 a0_1 a0_2 a0_3 x140004_1) = some (r1, r2, r3, r4, r5) := by first | (rw [hji25] at H; exact H) | (simp only [hji25] at H ⊢; exact H)
      have hji25_ : (if 0 < (wrap64 (x36_1 - a2)) then (wrap64 (x36_1 - a2)) else 0) = ji25 := hji25
      obtain ⟨ji26, hji26⟩ : ∃ j_ : Int, (mn a0_1 (wrap64 ((wrap64 (x36_1 + a2)) + 1))) = j_ := ⟨_, rfl⟩
      replace H : (morphology_plane_transform_46.l1 k1 a1 a2 t136 (wrap64 ((wrap64 ((wrap64 (2 * a1)) + 1)) * (wrap64 ((wrap64 (2 * a2)) + 1)))) x36_1 ji25 ji26 a0_1 x36_1 a0_0 0 a0_0 a0_1 a0_2 a0_3 l0_4 a0_0 a0_1 a0_2 a0_3 x140004_1) = some (r1, r2, r3, r4, r5) := by first | (rw [hji26] at H; exact H) | (simp only [hji26] at H ⊢; exact H)
      have hji26_ : (if (wrap64 ((wrap64 (x36_1 + a2)) + 1)) < a0_1 then (wrap64 ((wrap64 (x36_1 + a2)) + 1)) else a0_1) = ji26 := hji26
      have H' := Aside0.mk H
      clear H
      try go_wp2
      have n0_ := Aside0.mk (Kd.R_drew HO_9.out)
      have n1_ := Aside0.mk (Kd.R_drew HO_140004.out)
      have n2_ := Aside0.mk (blk_drew BK134.out)
      have n3_ := Aside0.mk (blk_drew BK135.out)
      have n4_ := Aside0.mk (blk_drew BK139.out)
      have n5_ := Aside0.mk (below_drew1 HB.out)
      clear HO_9
      clear HO_140004
      clear BK134
      clear BK135
      clear BK139
      clear HB
      have HO_9 := n0_
      have HO_140004 := n1_
      have BK134 := n2_
      have BK135 := n3_
      have BK139 := n4_
      have HB := n5_
      clear n0_ n1_ n2_ n3_ n4_ n5_
      refine start_ (n := 13) (S := fun w' => w'.cell? ⟨gb134, 0, none⟩ = some (.int .i64 a0_0) ∧ w'.cell? ⟨gb134, 1, none⟩ = some (.int .i64 a0_1) ∧ w'.cell? ⟨gb134, 2, none⟩ = some (.int .i64 a0_2) ∧ w'.cell? ⟨gb134, 3, none⟩ = some (.int .i64 a0_3) ∧ w'.cell? ⟨gb134, 4, none⟩ = some (.slice A0_4 l0_4.length c0_4)) (ds := []) (bA 13 0) (by kernel_rfl) rfl rfl ⟨(blk_cell BK134.out 0).trans rfl, (blk_cell BK134.out 1).trans rfl, (blk_cell BK134.out 2).trans rfl, (blk_cell BK134.out 3).trans rfl, (blk_cell BK134.out 4).trans rfl⟩ (fun hHeld => ?_); refine with_tabW morphology_plane_transform_46.tab8 morphology_plane_transform_46.bits8 (fun HT_ HW_ => ?_)
      generalize wr.drew = w27 at HO_9 HO_140004 BK134 BK135 BK139 HB hHeld ⊢
      refine pt HT_ 0 39 ?_
      refine pt HT_ 1 40 ?_
      refine pt HT_ 2 41 ?_
      refine pt HT_ 3 42 ?_
      refine pt HT_ 4 43 ?_
      refine pt HT_ 6 45 ?_
      refine pt HT_ 7 46 ?_
      refine pt HT_ 8 47 ?_
      refine pt HT_ 9 48 ?_
      refine pt HT_ 11 13 ?_
      refine tk HT_ HW_ hHeld 5 44 ?_
      refine pt HT_ 10 49 ?_
      refine pt HT_ 12 14 ?_
      refine done_ (done_of HT_.out (by kernel_rfl)) ?_
      have hnb28 := NB134_135.out
      have hnc28 := NB135_134.out
      have hnb29 := NB134_139.out
      have hnc29 := NB139_134.out
      have hcz30_0 : w27.cell? ⟨gb134, 0, none⟩ = some (.int .i64 a0_0) := (blk_cell BK134.out 0).trans rfl
      have hcz30_1 : w27.cell? ⟨gb134, 1, none⟩ = some (.int .i64 a0_1) := (blk_cell BK134.out 1).trans rfl
      have hcz30_2 : w27.cell? ⟨gb134, 2, none⟩ = some (.int .i64 a0_2) := (blk_cell BK134.out 2).trans rfl
      have hcz30_3 : w27.cell? ⟨gb134, 3, none⟩ = some (.int .i64 a0_3) := (blk_cell BK134.out 3).trans rfl
      have hcz30_4 : w27.cell? ⟨gb134, 4, none⟩ = some (.slice A0_4 l0_4.length c0_4) := (blk_cell BK134.out 4).trans rfl
      have hfz30_0 := blk_frozen BK134.out 0
      have hfz30_1 := blk_frozen BK134.out 1
      have hfz30_2 := blk_frozen BK134.out 2
      have hfz30_3 := blk_frozen BK134.out 3
      have hfz30_4 := blk_frozen BK134.out 4
      try go_wp2
      go_loopg [52] k1 (fun kq v52 w' => ∃ (x52_2 : Int) (x140004_2 : List Bool) (u140004 : Value), v52 = .int .i64 x52_2 ∧ Aside0 (morphology_plane_transform_46.l1 kq a1 a2 t136 (wrap64 ((wrap64 ((wrap64 (2 * a1)) + 1)) * (wrap64 ((wrap64 (2 * a2)) + 1)))) x36_1 ji25 ji26 a0_1 x36_1 a0_0 x52_2 a0_0 a0_1 a0_2 a0_3 l0_4 a0_0 a0_1 a0_2 a0_3 x140004_2 = some (r1, r2, r3, r4, r5)) ∧ Aside0 (kq ≤ k1) ∧ Aside0 (Kd.R (Kd.int .i64) 3 w' w.heap.size (fun _ => True) v137 t136) ∧ Aside0 (Kd.R Kd.bool 4 w' w.heap.size (fun _ => True) u140004 x140004_2) ∧ Aside0 (w'.heap[gb134]? = some (.cells #[.int .i64 a0_0, .int .i64 a0_1, .int .i64 a0_2, .int .i64 a0_3, (.slice A0_4 l0_4.length c0_4)] 50 (0, 0))) ∧ Aside0 (w'.heap[gb135]? = some (.cells #[.int .i64 0, .int .i64 0, .int .i64 0, .int .i64 0, (.slice none 0 0)] 50 (0, 0))) ∧ Aside0 (w'.heap[gb139]? = some (.cells #[.int .i64 a0_0, .int .i64 a0_1, .int .i64 a0_2, .int .i64 a0_3, u140004] 50 (0, 0))) ∧ Aside0 (Below w.heap.size w w'))
      case atStart => exact ⟨(0), (x140004_1), (u140004), (by first | rfl | (simp; done) | (simp [*]; done)), H', ⟨Nat.le_refl _⟩, ⟨rkx HO_9⟩, ⟨rkx HO_140004⟩, ⟨bkx BK134⟩, ⟨bkx BK135⟩, ⟨bkx BK139⟩, ⟨hb3 HB GE134 GE135 GE139⟩⟩
      case round =>
       clear H'
       try clear c1
       try clear c2
       try clear p2
       try clear c3
       try clear c5
       try clear c6
       try clear c6b0
       try clear c6b1
       try clear p6
       try clear c7
       try clear c7b0
       try clear c7b1
       try clear c10
       try clear c15
       try clear c16
       try clear c24
       try clear c24b0
       try clear c28
       try clear c29
       try clear hcz11_0
       try clear hcz11_1
       try clear hcz11_2
       try clear hcz11_3
       try clear hcz11_4
       try clear hcz13_0
       try clear hcz13_1
       try clear hcz13_2
       try clear hcz13_3
       try clear hcz13_4
       try clear hcz17_0
       try clear hcz17_1
       try clear hcz17_2
       try clear hcz17_3
       try clear hcz17_4
       try clear hcz18_0
       try clear hcz18_1
       try clear hcz18_2
       try clear hcz18_3
       try clear hcz18_4
       try clear hcz22_0
       try clear hcz22_1
       try clear hcz22_2
       try clear hcz22_3
       try clear hcz22_4
       try clear hcz23_0
       try clear hcz23_1
       try clear hcz23_2
       try clear hcz23_3
       try clear hcz23_4
       try clear hcz30_0
       try clear hcz30_1
       try clear hcz30_2
       try clear hcz30_3
       try clear hcz30_4
       try clear hfz11_0
       try clear hfz11_1
       try clear hfz11_2
       try clear hfz11_3
       try clear hfz11_4
       try clear hfz13_0
       try clear hfz13_1
       try clear hfz13_2
       try clear hfz13_3
       try clear hfz13_4
       try clear hfz17_0
       try clear hfz17_1
       try clear hfz17_2
       try clear hfz17_3
       try clear hfz17_4
       try clear hfz18_0
       try clear hfz18_1
       try clear hfz18_2
       try clear hfz18_3
       try clear hfz18_4
       try clear hfz22_0
       try clear hfz22_1
       try clear hfz22_2
       try clear hfz22_3
       try clear hfz22_4
       try clear hfz23_0
       try clear hfz23_1
       try clear hfz23_2
       try clear hfz23_3
       try clear hfz23_4
       try clear hfz30_0
       try clear hfz30_1
       try clear hfz30_2
       try clear hfz30_3
       try clear hfz30_4
       try clear p2
       try clear p6
       obtain ⟨x52_2, x140004_2, u140004, rfl, HA, HK2, HO_9, HO_140004, BK134, BK135, BK139, HB⟩ := hrel
       cases gk with
       | zero => exact absurd HA.out (by simp [morphology_plane_transform_46.l1])
       | succ k2 =>
        have H := HA.out
        clear HA
        simp only [morphology_plane_transform_46.l1] at H
        by_cases c31 : x52_2 < a0_0
        ·rw [if_pos c31] at H
         have c31b0 : decide (x52_2 < a0_0) = true := decide_eq_true c31
         clear c31
         obtain ⟨ji32, hji32⟩ : ∃ j_ : Int, (mx 0 (wrap64 (x52_2 - a1))) = j_ := ⟨_, rfl⟩
         replace H : (if 0 ≤ (wrap64 ((wrap64 (ji26 * (wrap64 (a0_0 + 1)))) + (mn a0_0 (wrap64 ((wrap64 (x52_2 + a1)) + 1))))) then (if (wrap64 ((wrap64 (ji26 * (wrap64 (a0_0 + 1)))) + (mn a0_0 (wrap64 ((wrap64 (x52_2 + a1)) + 1))))) < (t136.length : Int) then (if 0 ≤ (wrap64 ((wrap64 (ji25 * (wrap64 (a0_0 + 1)))) + (mn a0_0 (wrap64 ((wrap64 (x52_2 + a1)) + 1))))) then (if (wrap64 ((wrap64 (ji25 * (wrap64 (a0_0 + 1)))) + (mn a0_0 (wrap64 ((wrap64 (x52_2 + a1)) + 1))))) < (t136.length : Int) then (if 0 ≤ (wrap64 ((wrap64 (ji26 * (wrap64 (a0_0 + 1)))) + (ji32))) then (if (wrap64 ((wrap64 (ji26 * (wrap64 (a0_0 + 1)))) + (ji32))) < (t136.length : Int) then (if 0 ≤ (wrap64 ((wrap64 (ji25 * (wrap64 (a0_0 + 1)))) + (ji32))) then (if (wrap64 ((wrap64 (ji25 * (wrap64 (a0_0 + 1)))) + (ji32))) < (t136.length : Int) then ((morphology_erosion_1.f (wrap64 ((wrap64 ((wrap64 ((rd t136 (wrap64 ((wrap64 (ji26 * (wrap64 (a0_0 + 1)))) + (mn a0_0 (wrap64 ((wrap64 (x52_2 + a1)) + 1)))))) - (rd t136 (wrap64 ((wrap64 (ji25 * (wrap64 (a0_0 + 1)))) + (mn a0_0 (wrap64 ((wrap64 (x52_2 + a1)) + 1)))))))) - (rd t136 (wrap64 ((wrap64 (ji26 * (wrap64 (a0_0 + 1)))) + (ji32)))))) + (rd t136 (wrap64 ((wrap64 (ji25 * (wrap64 (a0_0 + 1)))) + (ji32)))))) (wrap64 ((wrap64 ((wrap64 (2 * a1)) + 1)) * (wrap64 ((wrap64 (2 * a2)) + 1))))).bind fun t147 => (if 0 ≤ (wrap64 ((wrap64 (x36_1 * a0_0)) + x52_2)) then (if (wrap64 ((wrap64 (x36_1 * a0_0)) + x52_2)) < (x140004_2.length : Int) then (morphology_plane_transform_46.l1 k2 a1 a2 t136 (wrap64 ((wrap64 ((wrap64 (2 * a1)) + 1)) * (wrap64 ((wrap64 (2 * a2)) + 1)))) x36_1 ji25 ji26 a0_1 x36_1 a0_0 (wrap64 (x52_2 + 1)) a0_0 a0_1 a0_2 a0_3 l0_4 a0_0 a0_1 a0_2 a0_3 (x140004_2.set ((wrap64 ((wrap64 (x36_1 * a0_0)) + x52_2)) : Int).toNat t147)) else (none)) else (none))) else (none)) else (none)) else (none)) else (none)) else (none)) else (none)) else (none)) else (none)) = some (r1, r2, r3, r4, r5) := by first | (rw [hji32] at H; exact H) | (simp only [hji32] at H ⊢; exact H)
         have hji32_ : (if 0 < (wrap64 (x52_2 - a1)) then (wrap64 (x52_2 - a1)) else 0) = ji32 := hji32
         obtain ⟨ji33, hji33⟩ : ∃ j_ : Int, (mn a0_0 (wrap64 ((wrap64 (x52_2 + a1)) + 1))) = j_ := ⟨_, rfl⟩
         replace H : (if 0 ≤ (wrap64 ((wrap64 (ji26 * (wrap64 (a0_0 + 1)))) + (ji33))) then (if (wrap64 ((wrap64 (ji26 * (wrap64 (a0_0 + 1)))) + (ji33))) < (t136.length : Int) then (if 0 ≤ (wrap64 ((wrap64 (ji25 * (wrap64 (a0_0 + 1)))) + (ji33))) then (if (wrap64 ((wrap64 (ji25 * (wrap64 (a0_0 + 1)))) + (ji33))) < (t136.length : Int) then (if 0 ≤ (wrap64 ((wrap64 (ji26 * (wrap64 (a0_0 + 1)))) + (ji32))) then (if (wrap64 ((wrap64 (ji26 * (wrap64 (a0_0 + 1)))) + (ji32))) < (t136.length : Int) then (if 0 ≤ (wrap64 ((wrap64 (ji25 * (wrap64 (a0_0 + 1)))) + (ji32))) then (if (wrap64 ((wrap64 (ji25 * (wrap64 (a0_0 + 1)))) + (ji32))) < (t136.length : Int) then ((morphology_erosion_1.f (wrap64 ((wrap64 ((wrap64 ((rd t136 (wrap64 ((wrap64 (ji26 * (wrap64 (a0_0 + 1)))) + (ji33)))) - (rd t136 (wrap64 ((wrap64 (ji25 * (wrap64 (a0_0 + 1)))) + (ji33)))))) - (rd t136 (wrap64 ((wrap64 (ji26 * (wrap64 (a0_0 + 1)))) + (ji32)))))) + (rd t136 (wrap64 ((wrap64 (ji25 * (wrap64 (a0_0 + 1)))) + (ji32)))))) (wrap64 ((wrap64 ((wrap64 (2 * a1)) + 1)) * (wrap64 ((wrap64 (2 * a2)) + 1))))).bind fun t147 => (if 0 ≤ (wrap64 ((wrap64 (x36_1 * a0_0)) + x52_2)) then (if (wrap64 ((wrap64 (x36_1 * a0_0)) + x52_2)) < (x140004_2.length : Int) then (morphology_plane_transform_46.l1 k2 a1 a2 t136 (wrap64 ((wrap64 ((wrap64 (2 * a1)) + 1)) * (wrap64 ((wrap64 (2 * a2)) + 1)))) x36_1 ji25 ji26 a0_1 x36_1 a0_0 (wrap64 (x52_2 + 1)) a0_0 a0_1 a0_2 a0_3 l0_4 a0_0 a0_1 a0_2 a0_3 (x140004_2.set ((wrap64 ((wrap64 (x36_1 * a0_0)) + x52_2)) : Int).toNat t147)) else (none)) else (none))) else (none)) else (none)) else (none)) else (none)) else (none)) else (none)) else (none)) else (none)) = some (r1, r2, r3, r4, r5) := by first | (rw [hji33] at H; exact H) | (simp only [hji33] at H ⊢; exact H)
         have hji33_ : (if (wrap64 ((wrap64 (x52_2 + a1)) + 1)) < a0_0 then (wrap64 ((wrap64 (x52_2 + a1)) + 1)) else a0_0) = ji33 := hji33
         obtain ⟨ji34, hji34⟩ : ∃ j_ : Int, (wrap64 ((wrap64 (ji26 * (wrap64 (a0_0 + 1)))) + (ji33))) = j_ := ⟨_, rfl⟩
         replace H : (if 0 ≤ (ji34) then (if (ji34) < (t136.length : Int) then (if 0 ≤ (wrap64 ((wrap64 (ji25 * (wrap64 (a0_0 + 1)))) + (ji33))) then (if (wrap64 ((wrap64 (ji25 * (wrap64 (a0_0 + 1)))) + (ji33))) < (t136.length : Int) then (if 0 ≤ (wrap64 ((wrap64 (ji26 * (wrap64 (a0_0 + 1)))) + (ji32))) then (if (wrap64 ((wrap64 (ji26 * (wrap64 (a0_0 + 1)))) + (ji32))) < (t136.length : Int) then (if 0 ≤ (wrap64 ((wrap64 (ji25 * (wrap64 (a0_0 + 1)))) + (ji32))) then (if (wrap64 ((wrap64 (ji25 * (wrap64 (a0_0 + 1)))) + (ji32))) < (t136.length : Int) then ((morphology_erosion_1.f (wrap64 ((wrap64 ((wrap64 ((rd t136 (ji34)) - (rd t136 (wrap64 ((wrap64 (ji25 * (wrap64 (a0_0 + 1)))) + (ji33)))))) - (rd t136 (wrap64 ((wrap64 (ji26 * (wrap64 (a0_0 + 1)))) + (ji32)))))) + (rd t136 (wrap64 ((wrap64 (ji25 * (wrap64 (a0_0 + 1)))) + (ji32)))))) (wrap64 ((wrap64 ((wrap64 (2 * a1)) + 1)) * (wrap64 ((wrap64 (2 * a2)) + 1))))).bind fun t147 => (if 0 ≤ (wrap64 ((wrap64 (x36_1 * a0_0)) + x52_2)) then (if (wrap64 ((wrap64 (x36_1 * a0_0)) + x52_2)) < (x140004_2.length : Int) then (morphology_plane_transform_46.l1 k2 a1 a2 t136 (wrap64 ((wrap64 ((wrap64 (2 * a1)) + 1)) * (wrap64 ((wrap64 (2 * a2)) + 1)))) x36_1 ji25 ji26 a0_1 x36_1 a0_0 (wrap64 (x52_2 + 1)) a0_0 a0_1 a0_2 a0_3 l0_4 a0_0 a0_1 a0_2 a0_3 (x140004_2.set ((wrap64 ((wrap64 (x36_1 * a0_0)) + x52_2)) : Int).toNat t147)) else (none)) else (none))) else (none)) else (none)) else (none)) else (none)) else (none)) else (none)) else (none)) else (none)) = some (r1, r2, r3, r4, r5) := by first | (rw [hji34] at H; exact H) | (simp only [hji34] at H ⊢; exact H)
         have hji34w : (IntKind.i64.wrap ((wrap64 (ji26 * (wrap64 (a0_0 + 1)))) + (ji33))) = ji34 := (i64_w _).trans hji34
         by_cases c35 : 0 ≤ (ji34)
         ·rw [if_pos c35] at H
          have c35b0 : decide (0 ≤ (ji34)) = true := decide_eq_true c35
          clear c35
          by_cases c36 : (ji34) < (t136.length : Int)
          ·rw [if_pos c36] at H
           have c36b0 : decide ((ji34) < (t136.length : Int)) = true := decide_eq_true c36
           clear c36
           obtain ⟨ji37, hji37⟩ : ∃ j_ : Int, (wrap64 ((wrap64 (ji25 * (wrap64 (a0_0 + 1)))) + (ji33))) = j_ := ⟨_, rfl⟩
           replace H : (if 0 ≤ (ji37) then (if (ji37) < (t136.length : Int) then (if 0 ≤ (wrap64 ((wrap64 (ji26 * (wrap64 (a0_0 + 1)))) + (ji32))) then (if (wrap64 ((wrap64 (ji26 * (wrap64 (a0_0 + 1)))) + (ji32))) < (t136.length : Int) then (if 0 ≤ (wrap64 ((wrap64 (ji25 * (wrap64 (a0_0 + 1)))) + (ji32))) then (if (wrap64 ((wrap64 (ji25 * (wrap64 (a0_0 + 1)))) + (ji32))) < (t136.length : Int) then ((morphology_erosion_1.f (wrap64 ((wrap64 ((wrap64 ((rd t136 (ji34)) - (rd t136 (ji37)))) - (rd t136 (wrap64 ((wrap64 (ji26 * (wrap64 (a0_0 + 1)))) + (ji32)))))) + (rd t136 (wrap64 ((wrap64 (ji25 * (wrap64 (a0_0 + 1)))) + (ji32)))))) (wrap64 ((wrap64 ((wrap64 (2 * a1)) + 1)) * (wrap64 ((wrap64 (2 * a2)) + 1))))).bind fun t147 => (if 0 ≤ (wrap64 ((wrap64 (x36_1 * a0_0)) + x52_2)) then (if (wrap64 ((wrap64 (x36_1 * a0_0)) + x52_2)) < (x140004_2.length : Int) then (morphology_plane_transform_46.l1 k2 a1 a2 t136 (wrap64 ((wrap64 ((wrap64 (2 * a1)) + 1)) * (wrap64 ((wrap64 (2 * a2)) + 1)))) x36_1 ji25 ji26 a0_1 x36_1 a0_0 (wrap64 (x52_2 + 1)) a0_0 a0_1 a0_2 a0_3 l0_4 a0_0 a0_1 a0_2 a0_3 (x140004_2.set ((wrap64 ((wrap64 (x36_1 * a0_0)) + x52_2)) : Int).toNat t147)) else (none)) else (none))) else (none)) else (none)) else (none)) else (none)) else (none)) else (none)) = some (r1, r2, r3, r4, r5) := by first | (rw [hji37] at H; exact H) | (simp only [hji37] at H ⊢; exact H)
           have hji37w : (IntKind.i64.wrap ((wrap64 (ji25 * (wrap64 (a0_0 + 1)))) + (ji33))) = ji37 := (i64_w _).trans hji37
           by_cases c38 : 0 ≤ (ji37)
           ·rw [if_pos c38] at H
            have c38b0 : decide (0 ≤ (ji37)) = true := decide_eq_true c38
            clear c38
            by_cases c39 : (ji37) < (t136.length : Int)
            ·rw [if_pos c39] at H
             have c39b0 : decide ((ji37) < (t136.length : Int)) = true := decide_eq_true c39
             clear c39
             obtain ⟨ji40, hji40⟩ : ∃ j_ : Int, (wrap64 ((wrap64 (ji26 * (wrap64 (a0_0 + 1)))) + (ji32))) = j_ := ⟨_, rfl⟩
             replace H : (if 0 ≤ (ji40) then (if (ji40) < (t136.length : Int) then (if 0 ≤ (wrap64 ((wrap64 (ji25 * (wrap64 (a0_0 + 1)))) + (ji32))) then (if (wrap64 ((wrap64 (ji25 * (wrap64 (a0_0 + 1)))) + (ji32))) < (t136.length : Int) then ((morphology_erosion_1.f (wrap64 ((wrap64 ((wrap64 ((rd t136 (ji34)) - (rd t136 (ji37)))) - (rd t136 (ji40)))) + (rd t136 (wrap64 ((wrap64 (ji25 * (wrap64 (a0_0 + 1)))) + (ji32)))))) (wrap64 ((wrap64 ((wrap64 (2 * a1)) + 1)) * (wrap64 ((wrap64 (2 * a2)) + 1))))).bind fun t147 => (if 0 ≤ (wrap64 ((wrap64 (x36_1 * a0_0)) + x52_2)) then (if (wrap64 ((wrap64 (x36_1 * a0_0)) + x52_2)) < (x140004_2.length : Int) then (morphology_plane_transform_46.l1 k2 a1 a2 t136 (wrap64 ((wrap64 ((wrap64 (2 * a1)) + 1)) * (wrap64 ((wrap64 (2 * a2)) + 1)))) x36_1 ji25 ji26 a0_1 x36_1 a0_0 (wrap64 (x52_2 + 1)) a0_0 a0_1 a0_2 a0_3 l0_4 a0_0 a0_1 a0_2 a0_3 (x140004_2.set ((wrap64 ((wrap64 (x36_1 * a0_0)) + x52_2)) : Int).toNat t147)) else (none)) else (none))) else (none)) else (none)) else (none)) else (none)) = some (r1, r2, r3, r4, r5) := by first | (rw [hji40] at H; exact H) | (simp only [hji40] at H ⊢; exact H)
             have hji40w : (IntKind.i64.wrap ((wrap64 (ji26 * (wrap64 (a0_0 + 1)))) + (ji32))) = ji40 := (i64_w _).trans hji40
             by_cases c41 : 0 ≤ (ji40)
             ·rw [if_pos c41] at H
              have c41b0 : decide (0 ≤ (ji40)) = true := decide_eq_true c41
              clear c41
              by_cases c42 : (ji40) < (t136.length : Int)
              ·rw [if_pos c42] at H
               have c42b0 : decide ((ji40) < (t136.length : Int)) = true := decide_eq_true c42
               clear c42
               obtain ⟨ji43, hji43⟩ : ∃ j_ : Int, (wrap64 ((wrap64 (ji25 * (wrap64 (a0_0 + 1)))) + (ji32))) = j_ := ⟨_, rfl⟩
               replace H : (if 0 ≤ (ji43) then (if (ji43) < (t136.length : Int) then ((morphology_erosion_1.f (wrap64 ((wrap64 ((wrap64 ((rd t136 (ji34)) - (rd t136 (ji37)))) - (rd t136 (ji40)))) + (rd t136 (ji43)))) (wrap64 ((wrap64 ((wrap64 (2 * a1)) + 1)) * (wrap64 ((wrap64 (2 * a2)) + 1))))).bind fun t147 => (if 0 ≤ (wrap64 ((wrap64 (x36_1 * a0_0)) + x52_2)) then (if (wrap64 ((wrap64 (x36_1 * a0_0)) + x52_2)) < (x140004_2.length : Int) then (morphology_plane_transform_46.l1 k2 a1 a2 t136 (wrap64 ((wrap64 ((wrap64 (2 * a1)) + 1)) * (wrap64 ((wrap64 (2 * a2)) + 1)))) x36_1 ji25 ji26 a0_1 x36_1 a0_0 (wrap64 (x52_2 + 1)) a0_0 a0_1 a0_2 a0_3 l0_4 a0_0 a0_1 a0_2 a0_3 (x140004_2.set ((wrap64 ((wrap64 (x36_1 * a0_0)) + x52_2)) : Int).toNat t147)) else (none)) else (none))) else (none)) else (none)) = some (r1, r2, r3, r4, r5) := by first | (rw [hji43] at H; exact H) | (simp only [hji43] at H ⊢; exact H)
               have hji43w : (IntKind.i64.wrap ((wrap64 (ji25 * (wrap64 (a0_0 + 1)))) + (ji32))) = ji43 := (i64_w _).trans hji43
               by_cases c44 : 0 ≤ (ji43)
               ·rw [if_pos c44] at H
                have c44b0 : decide (0 ≤ (ji43)) = true := decide_eq_true c44
                clear c44
                by_cases c45 : (ji43) < (t136.length : Int)
                ·rw [if_pos c45] at H
                 have c45b0 : decide ((ji43) < (t136.length : Int)) = true := decide_eq_true c45
                 clear c45
                 replace H := Option.bind_eq_some_iff.mp H
                 obtain ⟨t147, A460, H⟩ := H
                 replace H : (if 0 ≤ (wrap64 ((wrap64 (x36_1 * a0_0)) + x52_2)) then (if (wrap64 ((wrap64 (x36_1 * a0_0)) + x52_2)) < (x140004_2.length : Int) then (morphology_plane_transform_46.l1 k2 a1 a2 t136 (wrap64 ((wrap64 ((wrap64 (2 * a1)) + 1)) * (wrap64 ((wrap64 (2 * a2)) + 1)))) x36_1 ji25 ji26 a0_1 x36_1 a0_0 (wrap64 (x52_2 + 1)) a0_0 a0_1 a0_2 a0_3 l0_4 a0_0 a0_1 a0_2 a0_3 (x140004_2.set ((wrap64 ((wrap64 (x36_1 * a0_0)) + x52_2)) : Int).toNat t147)) else (none)) else (none)) = some (r1, r2, r3, r4, r5) := H
                 have A46 := Aside0.mk A460
                 clear A460
                 obtain ⟨ji47, hji47⟩ : ∃ j_ : Int, (wrap64 ((wrap64 (x36_1 * a0_0)) + x52_2)) = j_ := ⟨_, rfl⟩
                 replace H : (if 0 ≤ (ji47) then (if (ji47) < (x140004_2.length : Int) then (morphology_plane_transform_46.l1 k2 a1 a2 t136 (wrap64 ((wrap64 ((wrap64 (2 * a1)) + 1)) * (wrap64 ((wrap64 (2 * a2)) + 1)))) x36_1 ji25 ji26 a0_1 x36_1 a0_0 (wrap64 (x52_2 + 1)) a0_0 a0_1 a0_2 a0_3 l0_4 a0_0 a0_1 a0_2 a0_3 (x140004_2.set ((ji47) : Int).toNat t147)) else (none)) else (none)) = some (r1, r2, r3, r4, r5) := by first | (rw [hji47] at H; exact H) | (simp only [hji47] at H ⊢; exact H)
                 (try rw [hji47] at A46)
                 have hji47w : (IntKind.i64.wrap ((wrap64 (x36_1 * a0_0)) + x52_2)) = ji47 := (i64_w _).trans hji47
                 by_cases c48 : 0 ≤ (ji47)
                 ·rw [if_pos c48] at H
                  have c48b0 : decide (0 ≤ (ji47)) = true := decide_eq_true c48
                  clear c48
                  by_cases c49 : (ji47) < (x140004_2.length : Int)
                  ·rw [if_pos c49] at H
                   have c49b0 : decide ((ji47) < (x140004_2.length : Int)) = true := decide_eq_true c49
                   clear c49
                   obtain ⟨y148, hy148⟩ : ∃ y_ : List Bool, y_ = (x140004_2.set ((ji47) : Int).toNat t147) := ⟨_, rfl⟩
                   replace H : (morphology_plane_transform_46.l1 k2 a1 a2 t136 (wrap64 ((wrap64 ((wrap64 (2 * a1)) + 1)) * (wrap64 ((wrap64 (2 * a2)) + 1)))) x36_1 ji25 ji26 a0_1 x36_1 a0_0 (wrap64 (x52_2 + 1)) a0_0 a0_1 a0_2 a0_3 l0_4 a0_0 a0_1 a0_2 a0_3 y148) = some (r1, r2, r3, r4, r5) := by first | (rw [hy148]; with_reducible exact H) | (have H2_ := (Option.bind_some _ _).symm.trans H; rw [hy148]; with_reducible exact H2_) | (have H2_ := (Option.bind_some _ _).symm.trans H; with_reducible exact H2_) | with_reducible exact H | (rw [hy148]; exact H) | exact H
                   have Ny148 := Aside0.mk hy148
                   clear hy148
                   have H' := Aside0.mk H
                   clear H
                   try go_wp2
                   have n0_ := Aside0.mk (Kd.R_drew HO_9.out)
                   have n1_ := Aside0.mk (Kd.R_drew HO_140004.out)
                   have n2_ := Aside0.mk (blk_drew BK134.out)
                   have n3_ := Aside0.mk (blk_drew BK135.out)
                   have n4_ := Aside0.mk (blk_drew BK139.out)
                   have n5_ := Aside0.mk (below_drew1 HB.out)
                   clear HO_9
                   clear HO_140004
                   clear BK134
                   clear BK135
                   clear BK139
                   clear HB
                   have HO_9 := n0_
                   have HO_140004 := n1_
                   have BK134 := n2_
                   have BK135 := n3_
                   have BK139 := n4_
                   have HB := n5_
                   clear n0_ n1_ n2_ n3_ n4_ n5_
                   refine start_ (n := 13) (S := fun w' => w'.cell? ⟨gb134, 0, none⟩ = some (.int .i64 a0_0) ∧ w'.cell? ⟨gb134, 1, none⟩ = some (.int .i64 a0_1) ∧ w'.cell? ⟨gb134, 2, none⟩ = some (.int .i64 a0_2) ∧ w'.cell? ⟨gb134, 3, none⟩ = some (.int .i64 a0_3) ∧ w'.cell? ⟨gb134, 4, none⟩ = some (.slice A0_4 l0_4.length c0_4)) (ds := []) (bA 13 0) (by kernel_rfl) rfl rfl ⟨(blk_cell BK134.out 0).trans rfl, (blk_cell BK134.out 1).trans rfl, (blk_cell BK134.out 2).trans rfl, (blk_cell BK134.out 3).trans rfl, (blk_cell BK134.out 4).trans rfl⟩ (fun hHeld => ?_); refine with_tabW morphology_plane_transform_46.tab12 morphology_plane_transform_46.bits12 (fun HT_ HW_ => ?_)
                   generalize wr.drew = w51 at HO_9 HO_140004 BK134 BK135 BK139 HB hHeld ⊢
                   refine pt HT_ 0 55 ?_
                   refine pt HT_ 1 56 ?_
                   refine pt HT_ 2 57 ?_
                   refine pt HT_ 3 58 ?_
                   refine pt HT_ 4 59 ?_
                   refine pt HT_ 6 61 ?_
                   refine pt HT_ 7 62 ?_
                   refine pt HT_ 8 63 ?_
                   refine pt HT_ 9 64 ?_
                   refine pt HT_ 11 16 ?_
                   refine tk HT_ HW_ hHeld 5 60 ?_
                   refine pt HT_ 10 65 ?_
                   refine pt HT_ 12 17 ?_
                   refine done_ (done_of HT_.out (by kernel_rfl)) ?_
                   try go_wp2
                   have n0_ := Aside0.mk (Kd.R_drew HO_9.out)
                   have n1_ := Aside0.mk (Kd.R_drew HO_140004.out)
                   have n2_ := Aside0.mk (blk_drew BK134.out)
                   have n3_ := Aside0.mk (blk_drew BK135.out)
                   have n4_ := Aside0.mk (blk_drew BK139.out)
                   have n5_ := Aside0.mk (below_drew1 HB.out)
                   clear HO_9
                   clear HO_140004
                   clear BK134
                   clear BK135
                   clear BK139
                   clear HB
                   have HO_9 := n0_
                   have HO_140004 := n1_
                   have BK134 := n2_
                   have BK135 := n3_
                   have BK139 := n4_
                   have HB := n5_
                   clear n0_ n1_ n2_ n3_ n4_ n5_
                   obtain ⟨Ao53, co53, eo53⟩ := Kd.R_slice HO_9.out
                   (first | subst eo53 | (injection eo53 with f1_ f2_ f3_; have f4_ := f1_.symm; have f5_ := f3_.symm; clear f1_ f2_ f3_; subst f4_; subst f5_))
                   have p143 : 0 ≤ ((ji34) : Int) := of_decide_eq_true (by first | (with_reducible assumption) | assumption)
                   have q143 : (ji34) < (t136.length : Int) := of_decide_eq_true (by first | (with_reducible assumption) | assumption)
                   obtain ⟨ad143, e143, hx143_0⟩ := Kd.at_int (Kd.R_reads' HO_9.out).2.2 (ji34) p143 q143
                   cases e143
                   replace p143 := eq_true p143
                   replace q143 := eq_true q143
                   have p144 : 0 ≤ ((ji37) : Int) := of_decide_eq_true (by first | (with_reducible assumption) | assumption)
                   have q144 : (ji37) < (t136.length : Int) := of_decide_eq_true (by first | (with_reducible assumption) | assumption)
                   obtain ⟨ad144, e144, hx144_0⟩ := Kd.at_int (Kd.R_reads' HO_9.out).2.2 (ji37) p144 q144
                   obtain rfl : ad143 = ad144 := (by injection e144)
                   replace p144 := eq_true p144
                   replace q144 := eq_true q144
                   have p145 : 0 ≤ ((ji40) : Int) := of_decide_eq_true (by first | (with_reducible assumption) | assumption)
                   have q145 : (ji40) < (t136.length : Int) := of_decide_eq_true (by first | (with_reducible assumption) | assumption)
                   obtain ⟨ad145, e145, hx145_0⟩ := Kd.at_int (Kd.R_reads' HO_9.out).2.2 (ji40) p145 q145
                   obtain rfl : ad143 = ad145 := (by injection e145)
                   replace p145 := eq_true p145
                   replace q145 := eq_true q145
                   have p146 : 0 ≤ ((ji43) : Int) := of_decide_eq_true (by first | (with_reducible assumption) | assumption)
                   have q146 : (ji43) < (t136.length : Int) := of_decide_eq_true (by first | (with_reducible assumption) | assumption)
                   obtain ⟨ad146, e146, hx146_0⟩ := Kd.at_int (Kd.R_reads' HO_9.out).2.2 (ji43) p146 q146
                   obtain rfl : ad143 = ad146 := (by injection e146)
                   replace p146 := eq_true p146
                   replace q146 := eq_true q146
                   refine start_ (n := 44) (S := fun w' => w'.cell? ⟨gb134, 0, none⟩ = some (.int .i64 a0_0) ∧ w'.cell? ⟨gb134, 1, none⟩ = some (.int .i64 a0_1) ∧ w'.cell? ⟨gb134, 2, none⟩ = some (.int .i64 a0_2) ∧ w'.cell? ⟨gb134, 3, none⟩ = some (.int .i64 a0_3) ∧ w'.cell? ⟨gb134, 4, none⟩ = some (.slice A0_4 l0_4.length c0_4) ∧ w'.cell? (ad143.add ((ji34)).toNat) = some (.int .i64 (rd t136 (ji34))) ∧ w'.cell? (ad143.add ((ji37)).toNat) = some (.int .i64 (rd t136 (ji37))) ∧ w'.cell? (ad143.add ((ji40)).toNat) = some (.int .i64 (rd t136 (ji40))) ∧ w'.cell? (ad143.add ((ji43)).toNat) = some (.int .i64 (rd t136 (ji43)))) (ds := []) (bA 44 0) (by kernel_rfl) rfl rfl ⟨(blk_cell BK134.out 0).trans rfl, (blk_cell BK134.out 1).trans rfl, (blk_cell BK134.out 2).trans rfl, (blk_cell BK134.out 3).trans rfl, (blk_cell BK134.out 4).trans rfl, hx143_0, hx144_0, hx145_0, hx146_0⟩ (fun hHeld => ?_); refine with_tabW morphology_plane_transform_46.tab13 morphology_plane_transform_46.bits13 (fun HT_ HW_ => ?_)
                   generalize w51.drew = w52 at HO_9 HO_140004 BK134 BK135 BK139 HB hx143_0 hx144_0 hx145_0 hx146_0 hHeld ⊢
                   refine pt HT_ 0 66 ?_
                   refine pt HT_ 1 67 ?_
                   refine pt HT_ 2 68 ?_
                   refine pt HT_ 6 72 ?_
                   refine pt HT_ 10 76 ?_
                   refine pt HT_ 11 77 ?_
                   refine pt HT_ 12 78 ?_
                   refine pt HT_ 16 82 ?_
                   refine pt HT_ 21 87 ?_
                   refine pt HT_ 22 88 ?_
                   refine pt HT_ 23 89 ?_
                   refine pt HT_ 27 93 ?_
                   refine pt HT_ 32 98 ?_
                   refine pt HT_ 33 99 ?_
                   refine pt HT_ 34 100 ?_
                   refine pt HT_ 38 104 ?_
                   refine tk HT_ HW_ hHeld 3 69 ?_
                   refine pt HT_ 4 70 ?_
                   refine pt HT_ 5 71 ?_
                   refine pt HT_ 7 73 ?_
                   refine pt HT_ 8 74 ?_
                   refine tk HT_ HW_ hHeld 9 75 ?_
                   refine tk HT_ HW_ hHeld 13 79 ?_
                   refine pt HT_ 14 80 ?_
                   refine pt HT_ 15 81 ?_
                   refine pt HT_ 17 83 ?_
                   refine pt HT_ 18 84 ?_
                   refine tk HT_ HW_ hHeld 19 85 ?_
                   refine pt HT_ 20 86 ?_
                   refine tk HT_ HW_ hHeld 24 90 ?_
                   refine pt HT_ 25 91 ?_
                   refine pt HT_ 26 92 ?_
                   refine pt HT_ 28 94 ?_
                   refine pt HT_ 29 95 ?_
                   refine tk HT_ HW_ hHeld 30 96 ?_
                   refine pt HT_ 31 97 ?_
                   refine tk HT_ HW_ hHeld 35 101 ?_
                   refine pt HT_ 36 102 ?_
                   refine pt HT_ 37 103 ?_
                   refine pt HT_ 39 105 ?_
                   refine pt HT_ 40 106 ?_
                   refine tk HT_ HW_ hHeld 41 107 ?_
                   refine pt HT_ 42 108 ?_
                   refine pt HT_ 43 18 ?_
                   refine done_ (done_of HT_.out (by kernel_rfl)) ?_
                   try go_wp2
                   have n0_ := Aside0.mk (Kd.R_drew HO_9.out)
                   have n1_ := Aside0.mk (Kd.R_drew HO_140004.out)
                   have n2_ := Aside0.mk (blk_drew BK134.out)
                   have n3_ := Aside0.mk (blk_drew BK135.out)
                   have n4_ := Aside0.mk (blk_drew BK139.out)
                   have n5_ := Aside0.mk (below_drew1 HB.out)
                   clear HO_9
                   clear HO_140004
                   clear BK134
                   clear BK135
                   clear BK139
                   clear HB
                   have HO_9 := n0_
                   have HO_140004 := n1_
                   have BK134 := n2_
                   have BK135 := n3_
                   have BK139 := n4_
                   have HB := n5_
                   clear n0_ n1_ n2_ n3_ n4_ n5_
                   refine start_ (n := 14) (S := fun w' => w'.cell? ⟨gb139, 0, none⟩ = some (.int .i64 a0_0) ∧ w'.cell? ⟨gb139, 1, none⟩ = some (.int .i64 a0_1) ∧ w'.cell? ⟨gb139, 2, none⟩ = some (.int .i64 a0_2) ∧ w'.cell? ⟨gb139, 3, none⟩ = some (.int .i64 a0_3) ∧ w'.cell? ⟨gb139, 4, none⟩ = some (u140004) ∧ w'.cell? ⟨gb134, 0, none⟩ = some (.int .i64 a0_0) ∧ w'.cell? ⟨gb134, 1, none⟩ = some (.int .i64 a0_1) ∧ w'.cell? ⟨gb134, 2, none⟩ = some (.int .i64 a0_2) ∧ w'.cell? ⟨gb134, 3, none⟩ = some (.int .i64 a0_3) ∧ w'.cell? ⟨gb134, 4, none⟩ = some (.slice A0_4 l0_4.length c0_4)) (ds := [13]) (bA 14 0) (by kernel_rfl) rfl rfl ⟨(blk_cell BK139.out 0).trans rfl, (blk_cell BK139.out 1).trans rfl, (blk_cell BK139.out 2).trans rfl, (blk_cell BK139.out 3).trans rfl, (blk_cell BK139.out 4).trans rfl, (blk_cell BK134.out 0).trans rfl, (blk_cell BK134.out 1).trans rfl, (blk_cell BK134.out 2).trans rfl, (blk_cell BK134.out 3).trans rfl, (blk_cell BK134.out 4).trans rfl⟩ (fun hHeld => ?_); refine with_tabW morphology_plane_transform_46.tab14 morphology_plane_transform_46.bits14 (fun HT_ HW_ => ?_)
                   generalize w52.drew = w54 at HO_9 HO_140004 BK134 BK135 BK139 HB hHeld ⊢
                   refine pt HT_ 0 109 ?_
                   refine pt HT_ 2 111 ?_
                   refine pt HT_ 3 112 ?_
                   refine pt HT_ 6 115 ?_
                   refine pt HT_ 8 117 ?_
                   refine pt HT_ 9 118 ?_
                   refine pt HT_ 10 119 ?_
                   refine tk HT_ HW_ hHeld 1 110 ?_
                   refine tk HT_ HW_ hHeld 4 113 ?_
                   refine pt HT_ 5 114 ?_
                   refine pt HT_ 7 116 ?_
                   refine one_ (i := 11) (N := some 120) (bA 14 4095) rfl rfl (one_of HT_.out (by kernel_rfl)) (by decide) (fun K hK => ?_)
                   refine goesT_ Try.func46 (by kernel_rfl) rfl #[.int .i64 (wrap64 ((wrap64 ((wrap64 ((rd t136 (ji34)) - (rd t136 (ji37)))) - (rd t136 (ji40)))) + (rd t136 (ji43)))), .int .i64 (wrap64 ((wrap64 ((wrap64 (2 * a1)) + 1)) * (wrap64 ((wrap64 (2 * a2)) + 1))))] (by rfl) rfl rfl (by (try simp only [List.map_toArray, List.map_cons, List.map_nil]); first | done | (simp only [hji34, hji37, hji40, hji43]; rfl) | rfl | (simp only [List.length_drop, List.length_take]; rfl)) ?_
                   with_reducible refine (morphology_erosion_1.calls (wrap64 ((wrap64 ((wrap64 ((rd t136 (ji34)) - (rd t136 (ji37)))) - (rd t136 (ji40)))) + (rd t136 (ji43)))) (wrap64 ((wrap64 ((wrap64 (2 * a1)) + 1)) * (wrap64 ((wrap64 (2 * a2)) + 1)))) t147 _ A46.out).mono ?_
                   rintro e w' ⟨rfl, ⟨nd, rfl⟩⟩
                   refine ⟨_, rfl, ?_⟩
                   have p50 : 0 ≤ ((ji47) : Int) := of_decide_eq_true (by first | (with_reducible assumption) | assumption)
                   have q50 : ((ji47) : Int) < ((x140004_2.length : Int) : Int) := of_decide_eq_true (by first | (with_reducible assumption) | assumption)
                   obtain ⟨go50, co50, eo50, gb50, gl50, cl50, HG50⟩ := Kd.R_form HO_140004.out (by omega)
                   (first | cases eo50 | (injection eo50 with ea_ en_ ec_; (first | subst ea_ | (injection ea_ with ea_; subst ea_)); subst ec_; clear en_))
                   have GB50 := Aside0.mk gb50
                   have GG50 := Aside0.mk HG50
                   clear gb50 gl50 HG50
                   obtain ⟨hx50_0, hf50_0⟩ := Kd.R_celln false HO_140004.out ((ji47) : Int) p50 q50
                   replace p50 := eq_true p50
                   replace q50 := eq_true q50
                   have HP55 := Kd.R_putn HO_140004.out ((ji47) : Int) t147
                   rw [← Ny148.out] at HP55
                   have HQ55 := Aside0.mk HP55
                   clear HP55
                   refine hK.out _ _ ⟨(blk_cell BK139.out 0).trans rfl, (blk_cell BK139.out 1).trans rfl, (blk_cell BK139.out 2).trans rfl, (blk_cell BK139.out 3).trans rfl, (blk_cell BK139.out 4).trans rfl, (blk_cell BK134.out 0).trans rfl, (blk_cell BK134.out 1).trans rfl, (blk_cell BK134.out 2).trans rfl, (blk_cell BK134.out 3).trans rfl, (blk_cell BK134.out 4).trans rfl⟩ (fun hHeld => ?_)
                   clear hK K
                   refine norm_ (a' := ?_) ?_ ?_
                   rotate_left
                   ·show Act.put _ (some 120) _ = _
                    simp only [Act.put, List.setIfInBounds_toArray, List.set_cons_zero, List.set_cons_succ, i64_w, i32_w]
                    rfl
                   refine pt HT_ 12 121 ?_
                   refine last_ (i := 13) (N := none) (bA 14 16383) rfl rfl (one_of HT_.out (by kernel_rfl)) (by decide) (fun K hK => ?_)
                   refine skip_ (w1 := ?_) (by rfl) rfl ?_ ?_
                   rotate_left
                   ·go_simp
                    rfl
                   refine hK.out _ _ ?_
                   clear hK K
                   refine done_ (done_of HT_.out (by kernel_rfl)) ?_
                   try go_wp2
                   go_roundg k2
                   case measure => have := HK1.out; have := HK2.out; omega
                   case rel => exact ⟨(wrap64 (x52_2 + 1)), (y148), (.slice (some ⟨go50, 0, none⟩) x140004_2.length co50), (by first | rfl | (simp; done) | (simp [*]; done)), H', ⟨by have := HK1.out; have := HK2.out; omega⟩, ⟨by refine rkt ?_; exact Kd.R_mono (Kd.R_far (p := ⟨go50, ((ji47) : Int).toNat, none⟩) (Kd.R_types HO_9.out GG50.out (by decide)) (fun _ hk => hk.2) (.bool t147)) (fun _ hk => trivial)⟩, ⟨rkx HQ55⟩, ⟨by refine bkt ?_; refine blk_far ?_ (by have h_ := Kd.R_ne HO_140004.out BK134.out (by decide); intro e_; exact h_ (by rw [e_]; rfl)) _; refine bkt ?_; exact BK134.out⟩, ⟨by refine bkt ?_; refine blk_far ?_ (by have h_ := Kd.R_ne HO_140004.out BK135.out (by decide); intro e_; exact h_ (by rw [e_]; rfl)) _; refine bkt ?_; exact BK135.out⟩, ⟨by refine bkt ?_; refine blk_far ?_ (by have h_ := Kd.R_ne HO_140004.out BK139.out (by decide); intro e_; exact h_ (by rw [e_]; rfl)) _; refine bkt ?_; exact BK139.out⟩, ⟨hb4 HB GB50 GE134 GE135 GE139⟩⟩
                  ·rw [if_neg c49] at H
                   exact absurd H (by simp)
                 ·rw [if_neg c48] at H
                  exact absurd H (by simp)
                ·rw [if_neg c45] at H
                 exact absurd H (by simp)
               ·rw [if_neg c44] at H
                exact absurd H (by simp)
              ·rw [if_neg c42] at H
               exact absurd H (by simp)
             ·rw [if_neg c41] at H
              exact absurd H (by simp)
            ·rw [if_neg c39] at H
             exact absurd H (by simp)
           ·rw [if_neg c38] at H
            exact absurd H (by simp)
          ·rw [if_neg c36] at H
           exact absurd H (by simp)
         ·rw [if_neg c35] at H
          exact absurd H (by simp)
        ·rw [if_neg c31] at H
         have c31b0 : decide (x52_2 < a0_0) = false := decide_eq_false c31
         clear c31
         have H' := Aside0.mk H
         clear H
         go_wp2
         go_roundg k2
         case measure => have := HK1.out; have := HK2.out; omega
         case rel => exact ⟨(wrap64 (x36_1 + 1)), (x140004_2), (u140004), (by first | rfl | (simp; done) | (simp [*]; done)), H', ⟨by have := HK1.out; have := HK2.out; omega⟩, ⟨rkx HO_9⟩, ⟨rkx HO_140004⟩, ⟨bkx BK134⟩, ⟨bkx BK135⟩, ⟨bkx BK139⟩, ⟨hb3 HB GE134 GE135 GE139⟩⟩
     ·rw [if_neg c24] at H
      have c24b0 : decide (x36_1 < a0_1) = false := decide_eq_false c24
      clear c24
      simp only [Option.some.injEq, Prod.mk.injEq] at H
      obtain ⟨rfl, rfl, rfl, rfl, rfl⟩ := H
      have hnb56 := NB139_134.out
      have hnc56 := NB134_139.out
      have hnb57 := NB139_135.out
      have hnc57 := NB135_139.out
      have hcz58_0 : wr.cell? ⟨gb139, 0, none⟩ = some (.int .i64 a0_0) := (blk_cell BK139.out 0).trans rfl
      have hcz58_1 : wr.cell? ⟨gb139, 1, none⟩ = some (.int .i64 a0_1) := (blk_cell BK139.out 1).trans rfl
      have hcz58_2 : wr.cell? ⟨gb139, 2, none⟩ = some (.int .i64 a0_2) := (blk_cell BK139.out 2).trans rfl
      have hcz58_3 : wr.cell? ⟨gb139, 3, none⟩ = some (.int .i64 a0_3) := (blk_cell BK139.out 3).trans rfl
      have hcz58_4 : wr.cell? ⟨gb139, 4, none⟩ = some (u140004) := (blk_cell BK139.out 4).trans rfl
      have hfz58_0 := blk_frozen BK139.out 0
      have hfz58_1 := blk_frozen BK139.out 1
      have hfz58_2 := blk_frozen BK139.out 2
      have hfz58_3 := blk_frozen BK139.out 3
      have hfz58_4 := blk_frozen BK139.out 4
      have hnb59 := NB135_134.out
      have hnc59 := NB134_135.out
      have hcz60_0 : wr.cell? ⟨gb135, 0, none⟩ = some (.int .i64 0) := (blk_cell BK135.out 0).trans rfl
      have hcz60_1 : wr.cell? ⟨gb135, 1, none⟩ = some (.int .i64 0) := (blk_cell BK135.out 1).trans rfl
      have hcz60_2 : wr.cell? ⟨gb135, 2, none⟩ = some (.int .i64 0) := (blk_cell BK135.out 2).trans rfl
      have hcz60_3 : wr.cell? ⟨gb135, 3, none⟩ = some (.int .i64 0) := (blk_cell BK135.out 3).trans rfl
      have hcz60_4 : wr.cell? ⟨gb135, 4, none⟩ = some (.slice none 0 0) := (blk_cell BK135.out 4).trans rfl
      have hfz60_0 := blk_frozen BK135.out 0
      have hfz60_1 := blk_frozen BK135.out 1
      have hfz60_2 := blk_frozen BK135.out 2
      have hfz60_3 := blk_frozen BK135.out 3
      have hfz60_4 := blk_frozen BK135.out 4
      obtain ⟨Ao61, co61, eo61⟩ := Kd.R_slice HO_140004.out
      subst eo61
      go_wp2
      refine bodyPost_ret (results_cell_row rfl _ _ gb135 50 #[.int .i64 a0_0, .int .i64 a0_1, .int .i64 a0_2, .int .i64 a0_3, .slice Ao61 x140004_1.length co61] (0, 0) _ rfl (by refine bkt ?_; refine blk_put (cs := #[.int .i64 a0_0, .int .i64 a0_1, .int .i64 a0_2, .int .i64 a0_3, .slice none 0 0]) ?_ 4 _ rfl; refine bkt ?_; refine blk_put (cs := #[.int .i64 a0_0, .int .i64 a0_1, .int .i64 a0_2, .int .i64 0, .slice none 0 0]) ?_ 3 _ rfl; refine bkt ?_; refine blk_put (cs := #[.int .i64 a0_0, .int .i64 a0_1, .int .i64 0, .int .i64 0, .slice none 0 0]) ?_ 2 _ rfl; refine bkt ?_; refine blk_put (cs := #[.int .i64 a0_0, .int .i64 0, .int .i64 0, .int .i64 0, .slice none 0 0]) ?_ 1 _ rfl; refine bkt ?_; refine blk_put (cs := #[.int .i64 0, .int .i64 0, .int .i64 0, .int .i64 0, .slice none 0 0]) ?_ 0 _ rfl; refine bkt ?_; exact BK135.out) Try.underlying50 rfl (by kernel_rfl)) rfl ?_
      exact ⟨_, by first | rfl | (simp [errW_none, errW_some] <;> rfl) | (simp [*, errW_none, errW_some] <;> rfl), by refine rkt ?_; exact Kd.R_mono (Kd.R_far (p := ⟨gb135, 4, none⟩) (Kd.R_far (p := ⟨gb135, 3, none⟩) (Kd.R_far (p := ⟨gb135, 2, none⟩) (Kd.R_far (p := ⟨gb135, 1, none⟩) (Kd.R_far (p := ⟨gb135, 0, none⟩) (Kd.R_types HO_140004.out BK135.out (by decide)) (fun _ hk => hk.2) (.int .i64 a0_0)) (fun _ hk => hk.2) (.int .i64 a0_1)) (fun _ hk => hk.2) (.int .i64 a0_2)) (fun _ hk => hk.2) (.int .i64 a0_3)) (fun _ hk => hk.2) (.slice Ao61 x140004_1.length co61)) (fun _ hk => trivial), by repeat (first | (with_reducible first | exact HB.out | apply below_alloc | apply pw_below_drewN | apply below_drew1 | refine below_set ?_ GE134.out | refine below_set ?_ GE135.out | refine below_set ?_ GE139.out) | exact HB.out)⟩
  ·rw [if_neg c7] at H
   exact absurd H (by simp)
 ·rw [if_neg c6] at H
  exact absurd H (by simp)

/-! ### morphology_plane_transform_47: function 37 -/
mutual
def morphology_plane_transform_47.l0 : Nat → Int → Int → List Int → Int → Int → Int → Int → Int → Int → Int → List Bool → Int → Int → Int → Int → List Bool → Option (Int × Int × Int × Int × List Bool)
 | 0, _, _, _, _, _, _, _, _, _, _, _, _, _, _, _, _ => none
 | k + 1, x1, x2, x9, x11, x35, x36, x150000, x150001, x150002, x150003, x150004, x155000, x155001, x155002, x155003, x155004 => if x36 < x35 then (morphology_plane_transform_47.l1 k x1 x2 x9 x11 x36 (mx 0 (wrap64 (x36 - x2))) (mn x150001 (wrap64 ((wrap64 (x36 + x2)) + 1))) x35 x36 x150000 0 x150000 x150001 x150002 x150003 x150004 x155000 x155001 x155002 x155003 x155004) else (some (x155000, x155001, x155002, x155003, x155004))
def morphology_plane_transform_47.l1 : Nat → Int → Int → List Int → Int → Int → Int → Int → Int → Int → Int → Int → Int → Int → Int → Int → List Bool → Int → Int → Int → Int → List Bool → Option (Int × Int × Int × Int × List Bool)
 | 0, _, _, _, _, _, _, _, _, _, _, _, _, _, _, _, _, _, _, _, _, _ => none
 | k + 1, x1, x2, x9, x11, x12, x13, x14, x35, x36, x51, x52, x150000, x150001, x150002, x150003, x150004, x155000, x155001, x155002, x155003, x155004 => if x52 < x51 then (if 0 ≤ (wrap64 ((wrap64 (x14 * (wrap64 (x150000 + 1)))) + (mn x150000 (wrap64 ((wrap64 (x52 + x1)) + 1))))) then (if (wrap64 ((wrap64 (x14 * (wrap64 (x150000 + 1)))) + (mn x150000 (wrap64 ((wrap64 (x52 + x1)) + 1))))) < (x9.length : Int) then (if 0 ≤ (wrap64 ((wrap64 (x13 * (wrap64 (x150000 + 1)))) + (mn x150000 (wrap64 ((wrap64 (x52 + x1)) + 1))))) then (if (wrap64 ((wrap64 (x13 * (wrap64 (x150000 + 1)))) + (mn x150000 (wrap64 ((wrap64 (x52 + x1)) + 1))))) < (x9.length : Int) then (if 0 ≤ (wrap64 ((wrap64 (x14 * (wrap64 (x150000 + 1)))) + (mx 0 (wrap64 (x52 - x1))))) then (if (wrap64 ((wrap64 (x14 * (wrap64 (x150000 + 1)))) + (mx 0 (wrap64 (x52 - x1))))) < (x9.length : Int) then (if 0 ≤ (wrap64 ((wrap64 (x13 * (wrap64 (x150000 + 1)))) + (mx 0 (wrap64 (x52 - x1))))) then (if (wrap64 ((wrap64 (x13 * (wrap64 (x150000 + 1)))) + (mx 0 (wrap64 (x52 - x1))))) < (x9.length : Int) then ((morphology_dilation_1.f (wrap64 ((wrap64 ((wrap64 ((rd x9 (wrap64 ((wrap64 (x14 * (wrap64 (x150000 + 1)))) + (mn x150000 (wrap64 ((wrap64 (x52 + x1)) + 1)))))) - (rd x9 (wrap64 ((wrap64 (x13 * (wrap64 (x150000 + 1)))) + (mn x150000 (wrap64 ((wrap64 (x52 + x1)) + 1)))))))) - (rd x9 (wrap64 ((wrap64 (x14 * (wrap64 (x150000 + 1)))) + (mx 0 (wrap64 (x52 - x1)))))))) + (rd x9 (wrap64 ((wrap64 (x13 * (wrap64 (x150000 + 1)))) + (mx 0 (wrap64 (x52 - x1)))))))) x11).bind fun t162 => (if 0 ≤ (wrap64 ((wrap64 (x12 * x150000)) + x52)) then (if (wrap64 ((wrap64 (x12 * x150000)) + x52)) < (x155004.length : Int) then (morphology_plane_transform_47.l1 k x1 x2 x9 x11 x12 x13 x14 x35 x36 x51 (wrap64 (x52 + 1)) x150000 x150001 x150002 x150003 x150004 x155000 x155001 x155002 x155003 (x155004.set ((wrap64 ((wrap64 (x12 * x150000)) + x52)) : Int).toNat t162)) else (none)) else (none))) else (none)) else (none)) else (none)) else (none)) else (none)) else (none)) else (none)) else (none)) else (morphology_plane_transform_47.l0 k x1 x2 x9 x11 x35 (wrap64 (x36 + 1)) x150000 x150001 x150002 x150003 x150004 x155000 x155001 x155002 x155003 x155004)
end
def morphology_plane_transform_47.f (k : Nat) (a0_0 : Int) (a0_1 : Int) (a0_2 : Int) (a0_3 : Int) (l0_4 : List Bool) (a1 : Int) (a2 : Int)  : Option (Int × Int × Int × Int × List Bool) := (morphology_plane_sums.f k a0_0 a0_1 a0_2 a0_3 l0_4).bind fun t151 => (if 0 ≤ (l0_4.length : Int) then (if ((l0_4.length : Int) : Int).toNat ≤ 281474976710656 then (morphology_plane_transform_47.l0 k a1 a2 t151 (wrap64 ((wrap64 ((wrap64 (2 * a1)) + 1)) * (wrap64 ((wrap64 (2 * a2)) + 1)))) a0_1 0 a0_0 a0_1 a0_2 a0_3 l0_4 a0_0 a0_1 a0_2 a0_3 (List.replicate ((l0_4.length : Int) : Int).toNat false)) else (none)) else (none))
theorem morphology_plane_transform_47.mono_l : ∀ k, (∀ y0 y1 y2 y3 y4 y5 y6 y7 y8 y9 y10 y11 y12 y13 y14 y15, LeO (morphology_plane_transform_47.l0 k y0 y1 y2 y3 y4 y5 y6 y7 y8 y9 y10 y11 y12 y13 y14 y15) (morphology_plane_transform_47.l0 (k + 1) y0 y1 y2 y3 y4 y5 y6 y7 y8 y9 y10 y11 y12 y13 y14 y15)) ∧ (∀ y0 y1 y2 y3 y4 y5 y6 y7 y8 y9 y10 y11 y12 y13 y14 y15 y16 y17 y18 y19 y20, LeO (morphology_plane_transform_47.l1 k y0 y1 y2 y3 y4 y5 y6 y7 y8 y9 y10 y11 y12 y13 y14 y15 y16 y17 y18 y19 y20) (morphology_plane_transform_47.l1 (k + 1) y0 y1 y2 y3 y4 y5 y6 y7 y8 y9 y10 y11 y12 y13 y14 y15 y16 y17 y18 y19 y20))
 | 0 => ⟨fun _ _ _ _ _ _ _ _ _ _ _ _ _ _ _ _ r h => by simp [morphology_plane_transform_47.l0] at h, fun _ _ _ _ _ _ _ _ _ _ _ _ _ _ _ _ _ _ _ _ _ r h => by simp [morphology_plane_transform_47.l1] at h⟩
 | k + 1 => by
  obtain ⟨ih0, ih1⟩ := morphology_plane_transform_47.mono_l k
  refine ⟨?_, ?_⟩
  ·intro y0 y1 y2 y3 y4 y5 y6 y7 y8 y9 y10 y11 y12 y13 y14 y15
   unfold morphology_plane_transform_47.l0
   repeat' first
   | (with_reducible exact ih0 _ _ _ _ _ _ _ _ _ _ _ _ _ _ _ _)
   | (with_reducible exact ih1 _ _ _ _ _ _ _ _ _ _ _ _ _ _ _ _ _ _ _ _ _)
   | (with_reducible exact morphology_plane_sums.mono _ _ _ _ _ _)
   | (with_reducible exact LeO.refl _)
   | (with_reducible exact LeO.none _)
   | (with_reducible refine LeO.ite ?_ ?_)
   | (with_reducible refine LeO.bind ?_ (fun _ => ?_))
   | exact ih0 _ _ _ _ _ _ _ _ _ _ _ _ _ _ _ _
   | exact ih1 _ _ _ _ _ _ _ _ _ _ _ _ _ _ _ _ _ _ _ _ _
   | exact morphology_plane_sums.mono _ _ _ _ _ _
   | exact LeO.none _
   | refine LeO.ite ?_ ?_
   | refine LeO.bind ?_ (fun _ => ?_)
  ·intro y0 y1 y2 y3 y4 y5 y6 y7 y8 y9 y10 y11 y12 y13 y14 y15 y16 y17 y18 y19 y20
   unfold morphology_plane_transform_47.l1
   repeat' first
   | (with_reducible exact ih0 _ _ _ _ _ _ _ _ _ _ _ _ _ _ _ _)
   | (with_reducible exact ih1 _ _ _ _ _ _ _ _ _ _ _ _ _ _ _ _ _ _ _ _ _)
   | (with_reducible exact morphology_plane_sums.mono _ _ _ _ _ _)
   | (with_reducible exact LeO.refl _)
   | (with_reducible exact LeO.none _)
   | (with_reducible refine LeO.ite ?_ ?_)
   | (with_reducible refine LeO.bind ?_ (fun _ => ?_))
   | exact ih0 _ _ _ _ _ _ _ _ _ _ _ _ _ _ _ _
   | exact ih1 _ _ _ _ _ _ _ _ _ _ _ _ _ _ _ _ _ _ _ _ _
   | exact morphology_plane_sums.mono _ _ _ _ _ _
   | exact LeO.none _
   | refine LeO.ite ?_ ?_
   | refine LeO.bind ?_ (fun _ => ?_)
theorem morphology_plane_transform_47.mono : ∀ a0 a1 a2 a3 a4 a5 a6 k, LeO (morphology_plane_transform_47.f k a0 a1 a2 a3 a4 a5 a6) (morphology_plane_transform_47.f (k + 1) a0 a1 a2 a3 a4 a5 a6) := by
 intro a0 a1 a2 a3 a4 a5 a6 k
 obtain ⟨ih0, ih1⟩ := morphology_plane_transform_47.mono_l k
 unfold morphology_plane_transform_47.f
 repeat' first
   | (with_reducible exact ih0 _ _ _ _ _ _ _ _ _ _ _ _ _ _ _ _)
   | (with_reducible exact ih1 _ _ _ _ _ _ _ _ _ _ _ _ _ _ _ _ _ _ _ _ _)
   | (with_reducible exact morphology_plane_sums.mono _ _ _ _ _ _)
   | (with_reducible exact LeO.refl _)
   | (with_reducible exact LeO.none _)
   | (with_reducible refine LeO.ite ?_ ?_)
   | (with_reducible refine LeO.bind ?_ (fun _ => ?_))
   | exact ih0 _ _ _ _ _ _ _ _ _ _ _ _ _ _ _ _
   | exact ih1 _ _ _ _ _ _ _ _ _ _ _ _ _ _ _ _ _ _ _ _ _
   | exact morphology_plane_sums.mono _ _ _ _ _ _
   | exact LeO.none _
   | refine LeO.ite ?_ ?_
   | refine LeO.bind ?_ (fun _ => ?_)
def morphology_plane_transform_47.T8 : Bool × List (List Nat × List Nat) := (true, [([], []), ([], []), ([0, 1], [0, 1]), ([2], [2]), ([], []), ([4], [4]), ([], []), ([], []), ([6, 7], [6, 7]), ([8], [8]), ([5, 9], [5, 9]), ([3, 0, 1, 2, 3], [3]), ([10, 11, 0, 1, 2, 3, 4, 5, 6, 7, 8, 9, 10, 11], [10])])
def morphology_plane_transform_47.B8 : List Nat := [0, 0, 3, 7, 0, 16, 0, 0, 192, 448, 1008, 15, 4095]
theorem morphology_plane_transform_47.tab8 : rtab .any (opsOf Try.f37 8) = morphology_plane_transform_47.T8 := by kernel_rfl
theorem morphology_plane_transform_47.bits8 : waitsOk morphology_plane_transform_47.T8.2 morphology_plane_transform_47.B8 = true := by kernel_rfl
def morphology_plane_transform_47.T12 : Bool × List (List Nat × List Nat) := (true, [([], []), ([], []), ([0, 1], [0, 1]), ([2], [2]), ([], []), ([4], [4]), ([], []), ([], []), ([6, 7], [6, 7]), ([8], [8]), ([5, 9], [5, 9]), ([3, 0, 1, 2, 3], [3]), ([10, 11, 0, 1, 2, 3, 4, 5, 6, 7, 8, 9, 10, 11], [10])])
def morphology_plane_transform_47.B12 : List Nat := [0, 0, 3, 7, 0, 16, 0, 0, 192, 448, 1008, 15, 4095]
theorem morphology_plane_transform_47.tab12 : rtab .any (opsOf Try.f37 12) = morphology_plane_transform_47.T12 := by kernel_rfl
theorem morphology_plane_transform_47.bits12 : waitsOk morphology_plane_transform_47.T12.2 morphology_plane_transform_47.B12 = true := by kernel_rfl
def morphology_plane_transform_47.T13 : Bool × List (List Nat × List Nat) := (true, [([], []), ([], []), ([], []), ([2], [2]), ([3], [3]), ([1, 4], [1, 4]), ([], []), ([5, 6], [5, 6]), ([0, 7], [0, 7]), ([8], [8]), ([], []), ([], []), ([], []), ([12], [12]), ([13], [13]), ([11, 14], [11, 14]), ([], []), ([15, 16], [15, 16]), ([10, 17], [10, 17]), ([18], [18]), ([9, 19], [9, 19]), ([], []), ([], []), ([], []), ([23], [23]), ([24], [24]), ([22, 25], [22, 25]), ([], []), ([26, 27], [26, 27]), ([21, 28], [21, 28]), ([29], [29]), ([20, 30], [20, 30]), ([], []), ([], []), ([], []), ([34], [34]), ([35], [35]), ([33, 36], [33, 36]), ([], []), ([37, 38], [37, 38]), ([32, 39], [32, 39]), ([40], [40]), ([31, 41], [31, 41]), ([42, 0, 1, 2, 3, 4, 5, 6, 7, 8, 9, 10, 11, 12, 13, 14, 15, 16, 17, 18, 19, 20, 21, 22, 23, 24, 25, 26, 27, 28, 29, 30, 31, 32, 33, 34, 35, 36, 37, 38, 39, 40, 41, 42], [42])])
def morphology_plane_transform_47.B13 : List Nat := [0, 0, 0, 4, 12, 30, 0, 126, 255, 511, 0, 0, 0, 4096, 12288, 30720, 0, 129024, 261120, 523264, 1048575, 0, 0, 0, 8388608, 25165824, 62914560, 0, 264241152, 534773760, 1071644672, 2147483647, 0, 0, 0, 17179869184, 51539607552, 128849018880, 0, 541165879296, 1095216660480, 2194728288256, 4398046511103, 8796093022207]
theorem morphology_plane_transform_47.tab13 : rtab .any (opsOf Try.f37 13) = morphology_plane_transform_47.T13 := by kernel_rfl
theorem morphology_plane_transform_47.bits13 : waitsOk morphology_plane_transform_47.T13.2 morphology_plane_transform_47.B13 = true := by kernel_rfl
def morphology_plane_transform_47.T14 : Bool × List (List Nat × List Nat) := (true, [([], []), ([0], [0]), ([], []), ([], []), ([3], [3]), ([2, 4], [2, 4]), ([], []), ([5, 6], [5, 6]), ([], []), ([], []), ([], []), ([8, 9, 10], [8, 9, 10]), ([1, 7, 0, 1, 2, 3, 4, 5, 6, 7, 8, 9, 10, 11], [1, 7]), ([12, 11, 11, 0, 1, 2, 3, 4, 5, 6, 7, 8, 9, 10, 11], [11, 12])])
def morphology_plane_transform_47.B14 : List Nat := [0, 1, 0, 0, 8, 28, 0, 124, 0, 0, 0, 1792, 4095, 8191]
theorem morphology_plane_transform_47.tab14 : rtab .any (opsOf Try.f37 14) = morphology_plane_transform_47.T14 := by kernel_rfl
theorem morphology_plane_transform_47.bits14 : waitsOk morphology_plane_transform_47.T14.2 morphology_plane_transform_47.B14 = true := by kernel_rfl
set_option maxHeartbeats 8000000 in
set_option maxRecDepth 100000 in
theorem morphology_plane_transform_47.calls (k : Nat) (a0_0 : Int) (a0_1 : Int) (a0_2 : Int) (a0_3 : Int) (A0_4 : Option Addr) (c0_4 : Nat) (l0_4 : List Bool) (a1 : Int) (a2 : Int)  (r1 : Int) (r2 : Int) (r3 : Int) (r4 : Int) (r5 : List Bool) (w : World) (hr0_4 : Kd.C Kd.bool w A0_4 l0_4.length l0_4) (hc0_4 : l0_4.length ≤ c0_4) (h : morphology_plane_transform_47.f k a0_0 a0_1 a0_2 a0_3 l0_4 a1 a2 = some (r1, r2, r3, r4, r5)) :
  Calls Try.prog 37 #[.agg #[.int .i64 a0_0, .int .i64 a0_1, .int .i64 a0_2, .int .i64 a0_3, .slice A0_4 l0_4.length c0_4], .int .i64 a1, .int .i64 a2, .func (.func 47) #[] #[]] w fun e w' => ∃ v4_ : Value, e = .returned (.agg #[.int .i64 r1, .int .i64 r2, .int .i64 r3, .int .i64 r4, v4_]) ∧ Kd.R Kd.bool 4 w' w.heap.size (fun _ => True) v4_ r5 ∧ Below w.heap.size w w' := by
 have hu50 := Try.underlying50
 have HR0_4 := Aside0.mk hr0_4
 have HC0_4 := Aside0.mk hc0_4
 clear hr0_4 hc0_4
 have HB := Aside0.mk (Below.refl w.heap.size w)
 have H : ((morphology_plane_sums.f k a0_0 a0_1 a0_2 a0_3 l0_4).bind fun t151 => (if 0 ≤ (l0_4.length : Int) then (if ((l0_4.length : Int) : Int).toNat ≤ 281474976710656 then (morphology_plane_transform_47.l0 k a1 a2 t151 (wrap64 ((wrap64 ((wrap64 (2 * a1)) + 1)) * (wrap64 ((wrap64 (2 * a2)) + 1)))) a0_1 0 a0_0 a0_1 a0_2 a0_3 l0_4 a0_0 a0_1 a0_2 a0_3 (List.replicate ((l0_4.length : Int) : Int).toNat false)) else (none)) else (none))) = some (r1, r2, r3, r4, r5) := h
 clear h
 replace H := Option.bind_eq_some_iff.mp H
 obtain ⟨t151, A50, H⟩ := H
 replace H : (if 0 ≤ (l0_4.length : Int) then (if ((l0_4.length : Int) : Int).toNat ≤ 281474976710656 then (morphology_plane_transform_47.l0 k a1 a2 t151 (wrap64 ((wrap64 ((wrap64 (2 * a1)) + 1)) * (wrap64 ((wrap64 (2 * a2)) + 1)))) a0_1 0 a0_0 a0_1 a0_2 a0_3 l0_4 a0_0 a0_1 a0_2 a0_3 (List.replicate ((l0_4.length : Int) : Int).toNat false)) else (none)) else (none)) = some (r1, r2, r3, r4, r5) := H
 have A5 := Aside0.mk A50
 clear A50
 by_cases c6 : 0 ≤ (l0_4.length : Int)
 ·rw [if_pos c6] at H
  have c6b0 := eq_true c6
  have c6b1 : decide (0 ≤ (l0_4.length : Int)) = true := decide_eq_true c6
  clear c6
  by_cases c7 : ((l0_4.length : Int) : Int).toNat ≤ 281474976710656
  ·rw [if_pos c7] at H
   have c7b0 := eq_true c7
   have c7b1 : decide (((l0_4.length : Int) : Int).toNat ≤ 281474976710656) = true := decide_eq_true c7
   clear c7
   obtain ⟨y155, hy155⟩ : ∃ y_ : List Bool, y_ = (List.replicate ((l0_4.length : Int) : Int).toNat false) := ⟨_, rfl⟩
   replace H : (morphology_plane_transform_47.l0 k a1 a2 t151 (wrap64 ((wrap64 ((wrap64 (2 * a1)) + 1)) * (wrap64 ((wrap64 (2 * a2)) + 1)))) a0_1 0 a0_0 a0_1 a0_2 a0_3 l0_4 a0_0 a0_1 a0_2 a0_3 y155) = some (r1, r2, r3, r4, r5) := by first | (rw [hy155]; with_reducible exact H) | (have H2_ := (Option.bind_some _ _).symm.trans H; rw [hy155]; with_reducible exact H2_) | (have H2_ := (Option.bind_some _ _).symm.trans H; with_reducible exact H2_) | with_reducible exact H | (rw [hy155]; exact H) | exact H
   have Ny155 := Aside0.mk hy155
   clear hy155
   have H' := Aside0.mk H
   clear H
   go_enter Try.func37, Try.ntmps37
   go_wp2_with (first | ((with_reducible refine gate_dst (N := 4) rfl ?_); refine box_event ?hg (N := 4) ?hd (cs := #[.int .i64 a0_0, .int .i64 a0_1, .int .i64 a0_2, .int .i64 a0_3, .slice A0_4 l0_4.length c0_4]) (t := 50) ?hr ?_; (case hd => rfl); (case hg => rfl); (case hr => first | (go_simp; done) | (go_simp; rfl)); intro gb149 hg w8 hbox hb; have n0_ := Aside0.mk (below_step (hb0 HB) hb); have n1_ := Aside0.mk (hbox); have n2_ := Aside0.mk ((by rw [hg]; exact (below_size (hb0 HB)) : w.heap.size ≤ gb149)); have n3_ := Aside0.mk ((by rw [hg]; exact (below_size (hb0 HB)) : w.heap.size ≤ gb149)); clear HB; have HB := n0_; have BK149 := n1_; have GW149 := n2_; have GE149 := n3_; clear n0_ n1_ n2_ n3_; clear hb hbox hg) | ((with_reducible refine gate_dst (N := 8) rfl ?_); refine box_event ?hg (N := 8) ?hd (cs := #[.int .i64 0, .int .i64 0, .int .i64 0, .int .i64 0, .slice none 0 0]) (t := 50) ?hr ?_; (case hd => rfl); (case hg => rfl); (case hr => first | (go_simp; done) | (go_simp; rfl)); intro gb150 hg w9 hbox hb; have n0_ := Aside0.mk (blk_below (bkx BK149) hb); have n1_ := Aside0.mk (below_step (hb1 HB GE149) hb); have n2_ := Aside0.mk (hbox); have n3_ := Aside0.mk ((by rw [hg]; exact (below_size (hb1 HB GE149)) : w.heap.size ≤ gb150)); have n4_ := Aside0.mk ((by rw [hg]; exact (below_size (hb1 HB GE149)) : w.heap.size ≤ gb150)); have n5_ := Aside0.mk (nel hg BK149 : gb149 ≠ gb150); have n6_ := Aside0.mk (neg hg BK149 : gb150 ≠ gb149); clear BK149; clear HB; have BK149 := n0_; have HB := n1_; have BK150 := n2_; have GW150 := n3_; have GE150 := n4_; have NB149_150 := n5_; have NB150_149 := n6_; clear n0_ n1_ n2_ n3_ n4_ n5_ n6_; clear hb hbox hg; have hnb10 := NB149_150.out; have hnc10 := NB150_149.out; have hcz11_0 : w9.cell? ⟨gb149, 0, none⟩ = some (.int .i64 a0_0) := (blk_cell BK149.out 0).trans rfl; have hcz11_1 : w9.cell? ⟨gb149, 1, none⟩ = some (.int .i64 a0_1) := (blk_cell BK149.out 1).trans rfl; have hcz11_2 : w9.cell? ⟨gb149, 2, none⟩ = some (.int .i64 a0_2) := (blk_cell BK149.out 2).trans rfl; have hcz11_3 : w9.cell? ⟨gb149, 3, none⟩ = some (.int .i64 a0_3) := (blk_cell BK149.out 3).trans rfl; have hcz11_4 : w9.cell? ⟨gb149, 4, none⟩ = some (.slice A0_4 l0_4.length c0_4) := (blk_cell BK149.out 4).trans rfl; have hfz11_0 := blk_frozen BK149.out 0; have hfz11_1 := blk_frozen BK149.out 1; have hfz11_2 := blk_frozen BK149.out 2; have hfz11_3 := blk_frozen BK149.out 3; have hfz11_4 := blk_frozen BK149.out 4) | ((with_reducible refine gate_callee (f := 51) rfl ?_); refine goesL_ (some 20) rfl rfl Try.func51 (by kernel_rfl) rfl #[.agg #[.int .i64 a0_0, .int .i64 a0_1, .int .i64 a0_2, .int .i64 a0_3, .slice A0_4 l0_4.length c0_4]] rfl mapx ?_; (with_reducible refine (morphology_plane_sums.calls k a0_0 a0_1 a0_2 a0_3 _ _ l0_4 t151 _ ?side1 ?side2 A5.out).mono ?_); (case side1 => repeat (first | exact (Kd.C_below HR0_4.out HB.out) | (with_reducible refine Kd.C_alloc ?_ _) | (with_reducible refine Kd.C_drewN ?_ _) | (with_reducible refine Kd.C_drew ?_))); (case side2 => exact HC0_4.out); rintro e w12 ⟨v152, rfl, ho0, hb⟩; refine ⟨_, rfl, ?_⟩; have n0_ := Aside0.mk (Kd.R_lower ho0 (below_size (hb2 HB GE149 GE150))); have n1_ := Aside0.mk (blk_below (bkx BK149) hb); have n2_ := Aside0.mk (blk_below (bkx BK150) hb); have n3_ := Aside0.mk (below_step (hb2 HB GE149 GE150) hb); clear BK149; clear BK150; clear HB; have HO153 := n0_; have BK149 := n1_; have BK150 := n2_; have HB := n3_; clear n0_ n1_ n2_ n3_; (try clear hb); (try clear hb2); (try clear hk); (try clear hi); (try clear ho0); have hcz13_0 : w12.cell? ⟨gb149, 0, none⟩ = some (.int .i64 a0_0) := (blk_cell BK149.out 0).trans rfl; have hcz13_1 : w12.cell? ⟨gb149, 1, none⟩ = some (.int .i64 a0_1) := (blk_cell BK149.out 1).trans rfl; have hcz13_2 : w12.cell? ⟨gb149, 2, none⟩ = some (.int .i64 a0_2) := (blk_cell BK149.out 2).trans rfl; have hcz13_3 : w12.cell? ⟨gb149, 3, none⟩ = some (.int .i64 a0_3) := (blk_cell BK149.out 3).trans rfl; have hcz13_4 : w12.cell? ⟨gb149, 4, none⟩ = some (.slice A0_4 l0_4.length c0_4) := (blk_cell BK149.out 4).trans rfl; have hfz13_0 := blk_frozen BK149.out 0; have hfz13_1 := blk_frozen BK149.out 1; have hfz13_2 := blk_frozen BK149.out 2; have hfz13_3 := blk_frozen BK149.out 3; have hfz13_4 := blk_frozen BK149.out 4) | ((with_reducible refine gate_dst (N := 10) rfl ?_); refine box_event ?hg (N := 10) ?hd (cs := #[.int .i64 0, .int .i64 0, .int .i64 0, .int .i64 0, .slice none 0 0]) (t := 50) ?hr ?_; (case hd => rfl); (case hg => rfl); (case hr => first | (go_simp; done) | (go_simp; rfl)); intro gb154 hg w14 hbox hb; have n0_ := Aside0.mk (Kd.R_below (rkx HO153) hb); have n1_ := Aside0.mk (blk_below (bkx BK149) hb); have n2_ := Aside0.mk (blk_below (bkx BK150) hb); have n3_ := Aside0.mk (below_step (hb2 HB GE149 GE150) hb); have n4_ := Aside0.mk (hbox); have n5_ := Aside0.mk ((by rw [hg]; exact (below_size (hb2 HB GE149 GE150)) : w.heap.size ≤ gb154)); have n6_ := Aside0.mk ((by rw [hg]; exact (below_size (hb2 HB GE149 GE150)) : w.heap.size ≤ gb154)); have n7_ := Aside0.mk (nel hg BK149 : gb149 ≠ gb154); have n8_ := Aside0.mk (neg hg BK149 : gb154 ≠ gb149); have n9_ := Aside0.mk (nel hg BK150 : gb150 ≠ gb154); have n10_ := Aside0.mk (neg hg BK150 : gb154 ≠ gb150); clear HO153; clear BK149; clear BK150; clear HB; have HO153 := n0_; have BK149 := n1_; have BK150 := n2_; have HB := n3_; have BK154 := n4_; have GW154 := n5_; have GE154 := n6_; have NB149_154 := n7_; have NB154_149 := n8_; have NB150_154 := n9_; have NB154_150 := n10_; clear n0_ n1_ n2_ n3_ n4_ n5_ n6_ n7_ n8_ n9_ n10_; clear hb hbox hg; have hnb15 := NB154_149.out; have hnc15 := NB149_154.out; have hnb16 := NB154_150.out; have hnc16 := NB150_154.out; have hcz17_0 : w14.cell? ⟨gb154, 0, none⟩ = some (.int .i64 0) := (blk_cell BK154.out 0).trans rfl; have hcz17_1 : w14.cell? ⟨gb154, 1, none⟩ = some (.int .i64 0) := (blk_cell BK154.out 1).trans rfl; have hcz17_2 : w14.cell? ⟨gb154, 2, none⟩ = some (.int .i64 0) := (blk_cell BK154.out 2).trans rfl; have hcz17_3 : w14.cell? ⟨gb154, 3, none⟩ = some (.int .i64 0) := (blk_cell BK154.out 3).trans rfl; have hcz17_4 : w14.cell? ⟨gb154, 4, none⟩ = some (.slice none 0 0) := (blk_cell BK154.out 4).trans rfl; have hfz17_0 := blk_frozen BK154.out 0; have hfz17_1 := blk_frozen BK154.out 1; have hfz17_2 := blk_frozen BK154.out 2; have hfz17_3 := blk_frozen BK154.out 3; have hfz17_4 := blk_frozen BK154.out 4; have hcz18_0 : w14.cell? ⟨gb149, 0, none⟩ = some (.int .i64 a0_0) := (blk_cell BK149.out 0).trans rfl; have hcz18_1 : w14.cell? ⟨gb149, 1, none⟩ = some (.int .i64 a0_1) := (blk_cell BK149.out 1).trans rfl; have hcz18_2 : w14.cell? ⟨gb149, 2, none⟩ = some (.int .i64 a0_2) := (blk_cell BK149.out 2).trans rfl; have hcz18_3 : w14.cell? ⟨gb149, 3, none⟩ = some (.int .i64 a0_3) := (blk_cell BK149.out 3).trans rfl; have hcz18_4 : w14.cell? ⟨gb149, 4, none⟩ = some (.slice A0_4 l0_4.length c0_4) := (blk_cell BK149.out 4).trans rfl; have hfz18_0 := blk_frozen BK149.out 0; have hfz18_1 := blk_frozen BK149.out 1; have hfz18_2 := blk_frozen BK149.out 2; have hfz18_3 := blk_frozen BK149.out 3; have hfz18_4 := blk_frozen BK149.out 4) | ((with_reducible refine gate_dst (N := 25) rfl ?_); refine Kd.R_make Kd.bool _ 4 rfl (N := 25) rfl 22 _ _ rfl (l0_4.length : Int) rfl rfl Try.underlying22 (.bool false) 1 info4 rfl (by decide) (by omega) false (ok := fun _ => True) (okp := fun _ => True) rfl (fun _ hk => hk) trivial (of_decide_eq_true (by first | (with_reducible assumption) | assumption)) (Nat.le_trans (Nat.mul_le_mul_right _ (of_decide_eq_true (by first | (with_reducible assumption) | assumption) : (l0_4.length : Int).toNat ≤ 281474976710656)) (by omega)) (Below.refl _ _) (Nat.le_refl _) ?_; intro v156 w19 ho20 hb hg_ hnew_; clear hg_ hnew_; (first | rw [← Ny155.out] at ho20 | (simp only [Int.reduceToNat] at ho20; rw [← Ny155.out] at ho20)); have n0_ := Aside0.mk (Kd.R_below (by refine rkt ?_; exact (Kd.R_mono (Kd.R_far (p := ⟨gb154, 4, none⟩) (Kd.R_far (p := ⟨gb154, 3, none⟩) (Kd.R_far (p := ⟨gb154, 2, none⟩) (Kd.R_far (p := ⟨gb154, 1, none⟩) (Kd.R_far (p := ⟨gb154, 0, none⟩) (Kd.R_types HO153.out BK154.out (by decide)) (fun _ hk => hk.2) (.int .i64 a0_0)) (fun _ hk => hk.2) (.int .i64 a0_1)) (fun _ hk => hk.2) (.int .i64 a0_2)) (fun _ hk => hk.2) (.int .i64 a0_3)) (fun _ hk => hk.2) (.slice A0_4 l0_4.length c0_4)) (fun _ h_ => h_.1))) hb); have n1_ := Aside0.mk (Kd.R_lower ho20 (below_size (hb3 HB GE149 GE150 GE154))); have n2_ := Aside0.mk (blk_below (g := gb149) (o := .cells #[.int .i64 a0_0, .int .i64 a0_1, .int .i64 a0_2, .int .i64 a0_3, .slice A0_4 l0_4.length c0_4] 50 (0, 0)) (bky BK149 NB149_154) hb); have n3_ := Aside0.mk (blk_below (g := gb150) (o := .cells #[.int .i64 0, .int .i64 0, .int .i64 0, .int .i64 0, .slice none 0 0] 50 (0, 0)) (bky BK150 NB150_154) hb); have n4_ := Aside0.mk (blk_below (g := gb154) (o := .cells #[.int .i64 a0_0, .int .i64 a0_1, .int .i64 a0_2, .int .i64 a0_3, .slice A0_4 l0_4.length c0_4] 50 (0, 0)) (by refine bkt ?_; refine blk_put (cs := #[.int .i64 a0_0, .int .i64 a0_1, .int .i64 a0_2, .int .i64 a0_3, .slice none 0 0]) ?_ 4 _ rfl; refine bkt ?_; refine blk_put (cs := #[.int .i64 a0_0, .int .i64 a0_1, .int .i64 a0_2, .int .i64 0, .slice none 0 0]) ?_ 3 _ rfl; refine bkt ?_; refine blk_put (cs := #[.int .i64 a0_0, .int .i64 a0_1, .int .i64 0, .int .i64 0, .slice none 0 0]) ?_ 2 _ rfl; refine bkt ?_; refine blk_put (cs := #[.int .i64 a0_0, .int .i64 0, .int .i64 0, .int .i64 0, .slice none 0 0]) ?_ 1 _ rfl; refine bkt ?_; refine blk_put (cs := #[.int .i64 0, .int .i64 0, .int .i64 0, .int .i64 0, .slice none 0 0]) ?_ 0 _ rfl; refine bkt ?_; exact BK154.out) hb); have n5_ := Aside0.mk (below_step (hb3 HB GE149 GE150 GE154) hb); clear HO153; clear BK149; clear BK150; clear BK154; clear HB; have HO153 := n0_; have HO157 := n1_; have BK149 := n2_; have BK150 := n3_; have BK154 := n4_; have HB := n5_; clear n0_ n1_ n2_ n3_ n4_ n5_; clear hb ho20; obtain ⟨Ao21, co21, eo21⟩ := Kd.R_slice HO157.out; subst eo21; have hcz22_0 : w19.cell? ⟨gb154, 0, none⟩ = some (.int .i64 a0_0) := (blk_cell BK154.out 0).trans rfl; have hcz22_1 : w19.cell? ⟨gb154, 1, none⟩ = some (.int .i64 a0_1) := (blk_cell BK154.out 1).trans rfl; have hcz22_2 : w19.cell? ⟨gb154, 2, none⟩ = some (.int .i64 a0_2) := (blk_cell BK154.out 2).trans rfl; have hcz22_3 : w19.cell? ⟨gb154, 3, none⟩ = some (.int .i64 a0_3) := (blk_cell BK154.out 3).trans rfl; have hcz22_4 : w19.cell? ⟨gb154, 4, none⟩ = some (.slice A0_4 l0_4.length c0_4) := (blk_cell BK154.out 4).trans rfl; have hfz22_0 := blk_frozen BK154.out 0; have hfz22_1 := blk_frozen BK154.out 1; have hfz22_2 := blk_frozen BK154.out 2; have hfz22_3 := blk_frozen BK154.out 3; have hfz22_4 := blk_frozen BK154.out 4; have hcz23_0 : w19.cell? ⟨gb149, 0, none⟩ = some (.int .i64 a0_0) := (blk_cell BK149.out 0).trans rfl; have hcz23_1 : w19.cell? ⟨gb149, 1, none⟩ = some (.int .i64 a0_1) := (blk_cell BK149.out 1).trans rfl; have hcz23_2 : w19.cell? ⟨gb149, 2, none⟩ = some (.int .i64 a0_2) := (blk_cell BK149.out 2).trans rfl; have hcz23_3 : w19.cell? ⟨gb149, 3, none⟩ = some (.int .i64 a0_3) := (blk_cell BK149.out 3).trans rfl; have hcz23_4 : w19.cell? ⟨gb149, 4, none⟩ = some (.slice A0_4 l0_4.length c0_4) := (blk_cell BK149.out 4).trans rfl; have hfz23_0 := blk_frozen BK149.out 0; have hfz23_1 := blk_frozen BK149.out 1; have hfz23_2 := blk_frozen BK149.out 2; have hfz23_3 := blk_frozen BK149.out 3; have hfz23_4 := blk_frozen BK149.out 4))
   go_loopg [36] k (fun kq v36 w' => ∃ (x36_1 : Int) (x155004_1 : List Bool) (u155004 : Value), v36 = .int .i64 x36_1 ∧ Aside0 (morphology_plane_transform_47.l0 kq a1 a2 t151 (wrap64 ((wrap64 ((wrap64 (2 * a1)) + 1)) * (wrap64 ((wrap64 (2 * a2)) + 1)))) a0_1 x36_1 a0_0 a0_1 a0_2 a0_3 l0_4 a0_0 a0_1 a0_2 a0_3 x155004_1 = some (r1, r2, r3, r4, r5)) ∧ Aside0 (kq ≤ k) ∧ Aside0 (Kd.R (Kd.int .i64) 3 w' w.heap.size (fun _ => True) v152 t151) ∧ Aside0 (Kd.R Kd.bool 4 w' w.heap.size (fun _ => True) u155004 x155004_1) ∧ Aside0 (w'.heap[gb149]? = some (.cells #[.int .i64 a0_0, .int .i64 a0_1, .int .i64 a0_2, .int .i64 a0_3, (.slice A0_4 l0_4.length c0_4)] 50 (0, 0))) ∧ Aside0 (w'.heap[gb150]? = some (.cells #[.int .i64 0, .int .i64 0, .int .i64 0, .int .i64 0, (.slice none 0 0)] 50 (0, 0))) ∧ Aside0 (w'.heap[gb154]? = some (.cells #[.int .i64 a0_0, .int .i64 a0_1, .int .i64 a0_2, .int .i64 a0_3, u155004] 50 (0, 0))) ∧ Aside0 (Below w.heap.size w w'))
   case atStart => exact ⟨(0), (y155), (.slice Ao21 y155.length co21), (by first | rfl | (simp; done) | (simp [*]; done)), H', ⟨Nat.le_refl _⟩, ⟨by refine rkt ?_; exact Kd.R_mono (Kd.R_far (p := ⟨gb154, 4, none⟩) (Kd.R_types HO153.out BK154.out (by decide)) (fun _ hk => hk.2) (.slice Ao21 y155.length co21)) (fun _ hk => trivial)⟩, ⟨by refine rkt ?_; exact Kd.R_mono (Kd.R_far (p := ⟨gb154, 4, none⟩) (Kd.R_types HO157.out BK154.out (by decide)) (fun _ hk => hk.2) (.slice Ao21 y155.length co21)) (fun _ hk => trivial)⟩, ⟨bky BK149 NB149_154⟩, ⟨bky BK150 NB150_154⟩, ⟨by refine bkt ?_; refine blk_put (cs := #[.int .i64 a0_0, .int .i64 a0_1, .int .i64 a0_2, .int .i64 a0_3, .slice A0_4 l0_4.length c0_4]) ?_ 4 _ rfl; refine bkt ?_; exact BK154.out⟩, ⟨hb3 HB GE149 GE150 GE154⟩⟩
   case round =>
    clear H'
    try clear c1
    try clear p2
    try clear c3
    try clear c5
    try clear c6
    try clear c6b0
    try clear c6b1
    try clear p6
    try clear c7
    try clear c7b0
    try clear c7b1
    try clear c10
    try clear c15
    try clear c16
    try clear hcz11_0
    try clear hcz11_1
    try clear hcz11_2
    try clear hcz11_3
    try clear hcz11_4
    try clear hcz13_0
    try clear hcz13_1
    try clear hcz13_2
    try clear hcz13_3
    try clear hcz13_4
    try clear hcz17_0
    try clear hcz17_1
    try clear hcz17_2
    try clear hcz17_3
    try clear hcz17_4
    try clear hcz18_0
    try clear hcz18_1
    try clear hcz18_2
    try clear hcz18_3
    try clear hcz18_4
    try clear hcz22_0
    try clear hcz22_1
    try clear hcz22_2
    try clear hcz22_3
    try clear hcz22_4
    try clear hcz23_0
    try clear hcz23_1
    try clear hcz23_2
    try clear hcz23_3
    try clear hcz23_4
    try clear hfz11_0
    try clear hfz11_1
    try clear hfz11_2
    try clear hfz11_3
    try clear hfz11_4
    try clear hfz13_0
    try clear hfz13_1
    try clear hfz13_2
    try clear hfz13_3
    try clear hfz13_4
    try clear hfz17_0
    try clear hfz17_1
    try clear hfz17_2
    try clear hfz17_3
    try clear hfz17_4
    try clear hfz18_0
    try clear hfz18_1
    try clear hfz18_2
    try clear hfz18_3
    try clear hfz18_4
    try clear hfz22_0
    try clear hfz22_1
    try clear hfz22_2
    try clear hfz22_3
    try clear hfz22_4
    try clear hfz23_0
    try clear hfz23_1
    try clear hfz23_2
    try clear hfz23_3
    try clear hfz23_4
    obtain ⟨x36_1, x155004_1, u155004, rfl, HA, HK1, HO_9, HO_155004, BK149, BK150, BK154, HB⟩ := hrel
    cases gk with
    | zero => exact absurd HA.out (by simp [morphology_plane_transform_47.l0])
    | succ k1 =>
     have H := HA.out
     clear HA
     simp only [morphology_plane_transform_47.l0] at H
     by_cases c24 : x36_1 < a0_1
     ·rw [if_pos c24] at H
      have c24b0 : decide (x36_1 < a0_1) = true := decide_eq_true c24
      clear c24
      obtain ⟨ji25, hji25⟩ : ∃ j_ : Int, (mx 0 (wrap64 (x36_1 - a2))) = j_ := ⟨_, rfl⟩
      replace H : (morphology_plane_transform_47.l1 k1 a1 a2 t151 (wrap64 ((wrap64 ((wrap64 (2 * a1)) + 1)) * (wrap64 ((wrap64 (2 * a2)) + 1)))) x36_1 ji25 (mn a0_1 (wrap64 ((wrap64 (x36_1 + a2)) + 1))) a0_1 x36_1 a0_0 0 a0_0 a0_1 a0_2 a0_3 l0_4 a0_0 a0_1 a0_2 a0_3 x155004_1) = some (r1, r2, r3, r4, r5) := by first | (rw [hji25] at H; exact H) | (simp only [hji25] at H ⊢; exact H)
      have hji25_ : (if 0 < (wrap64 (x36_1 - a2)) then (wrap64 (x36_1 - a2)) else 0) = ji25 := hji25
      obtain ⟨ji26, hji26⟩ : ∃ j_ : Int, (mn a0_1 (wrap64 ((wrap64 (x36_1 + a2)) + 1))) = j_ := ⟨_, rfl⟩
      replace H : (morphology_plane_transform_47.l1 k1 a1 a2 t151 (wrap64 ((wrap64 ((wrap64 (2 * a1)) + 1)) * (wrap64 ((wrap64 (2 * a2)) + 1)))) x36_1 ji25 ji26 a0_1 x36_1 a0_0 0 a0_0 a0_1 a0_2 a0_3 l0_4 a0_0 a0_1 a0_2 a0_3 x155004_1) = some (r1, r2, r3, r4, r5) := by first | (rw [hji26] at H; exact H) | (simp only [hji26] at H ⊢; exact H)
      have hji26_ : (if (wrap64 ((wrap64 (x36_1 + a2)) + 1)) < a0_1 then (wrap64 ((wrap64 (x36_1 + a2)) + 1)) else a0_1) = ji26 := hji26
      have H' := Aside0.mk H
      clear H
      try go_wp2
      have n0_ := Aside0.mk (Kd.R_drew HO_9.out)
      have n1_ := Aside0.mk (Kd.R_drew HO_155004.out)
      have n2_ := Aside0.mk (blk_drew BK149.out)
      have n3_ := Aside0.mk (blk_drew BK150.out)
      have n4_ := Aside0.mk (blk_drew BK154.out)
      have n5_ := Aside0.mk (below_drew1 HB.out)
      clear HO_9
      clear HO_155004
      clear BK149
      clear BK150
      clear BK154
      clear HB
      have HO_9 := n0_
      have HO_155004 := n1_
      have BK149 := n2_
      have BK150 := n3_
      have BK154 := n4_
      have HB := n5_
      clear n0_ n1_ n2_ n3_ n4_ n5_
      refine start_ (n := 13) (S := fun w' => w'.cell? ⟨gb149, 0, none⟩ = some (.int .i64 a0_0) ∧ w'.cell? ⟨gb149, 1, none⟩ = some (.int .i64 a0_1) ∧ w'.cell? ⟨gb149, 2, none⟩ = some (.int .i64 a0_2) ∧ w'.cell? ⟨gb149, 3, none⟩ = some (.int .i64 a0_3) ∧ w'.cell? ⟨gb149, 4, none⟩ = some (.slice A0_4 l0_4.length c0_4)) (ds := []) (bA 13 0) (by kernel_rfl) rfl rfl ⟨(blk_cell BK149.out 0).trans rfl, (blk_cell BK149.out 1).trans rfl, (blk_cell BK149.out 2).trans rfl, (blk_cell BK149.out 3).trans rfl, (blk_cell BK149.out 4).trans rfl⟩ (fun hHeld => ?_); refine with_tabW morphology_plane_transform_47.tab8 morphology_plane_transform_47.bits8 (fun HT_ HW_ => ?_)
      generalize wr.drew = w27 at HO_9 HO_155004 BK149 BK150 BK154 HB hHeld ⊢
      refine pt HT_ 0 39 ?_
      refine pt HT_ 1 40 ?_
      refine pt HT_ 2 41 ?_
      refine pt HT_ 3 42 ?_
      refine pt HT_ 4 43 ?_
      refine pt HT_ 6 45 ?_
      refine pt HT_ 7 46 ?_
      refine pt HT_ 8 47 ?_
      refine pt HT_ 9 48 ?_
      refine pt HT_ 11 13 ?_
      refine tk HT_ HW_ hHeld 5 44 ?_
      refine pt HT_ 10 49 ?_
      refine pt HT_ 12 14 ?_
      refine done_ (done_of HT_.out (by kernel_rfl)) ?_
      have hnb28 := NB149_150.out
      have hnc28 := NB150_149.out
      have hnb29 := NB149_154.out
      have hnc29 := NB154_149.out
      have hcz30_0 : w27.cell? ⟨gb149, 0, none⟩ = some (.int .i64 a0_0) := (blk_cell BK149.out 0).trans rfl
      have hcz30_1 : w27.cell? ⟨gb149, 1, none⟩ = some (.int .i64 a0_1) := (blk_cell BK149.out 1).trans rfl
      have hcz30_2 : w27.cell? ⟨gb149, 2, none⟩ = some (.int .i64 a0_2) := (blk_cell BK149.out 2).trans rfl
      have hcz30_3 : w27.cell? ⟨gb149, 3, none⟩ = some (.int .i64 a0_3) := (blk_cell BK149.out 3).trans rfl
      have hcz30_4 : w27.cell? ⟨gb149, 4, none⟩ = some (.slice A0_4 l0_4.length c0_4) := (blk_cell BK149.out 4).trans rfl
      have hfz30_0 := blk_frozen BK149.out 0
      have hfz30_1 := blk_frozen BK149.out 1
      have hfz30_2 := blk_frozen BK149.out 2
      have hfz30_3 := blk_frozen BK149.out 3
      have hfz30_4 := blk_frozen BK149.out 4
      try go_wp2
      go_loopg [52] k1 (fun kq v52 w' => ∃ (x52_2 : Int) (x155004_2 : List Bool) (u155004 : Value), v52 = .int .i64 x52_2 ∧ Aside0 (morphology_plane_transform_47.l1 kq a1 a2 t151 (wrap64 ((wrap64 ((wrap64 (2 * a1)) + 1)) * (wrap64 ((wrap64 (2 * a2)) + 1)))) x36_1 ji25 ji26 a0_1 x36_1 a0_0 x52_2 a0_0 a0_1 a0_2 a0_3 l0_4 a0_0 a0_1 a0_2 a0_3 x155004_2 = some (r1, r2, r3, r4, r5)) ∧ Aside0 (kq ≤ k1) ∧ Aside0 (Kd.R (Kd.int .i64) 3 w' w.heap.size (fun _ => True) v152 t151) ∧ Aside0 (Kd.R Kd.bool 4 w' w.heap.size (fun _ => True) u155004 x155004_2) ∧ Aside0 (w'.heap[gb149]? = some (.cells #[.int .i64 a0_0, .int .i64 a0_1, .int .i64 a0_2, .int .i64 a0_3, (.slice A0_4 l0_4.length c0_4)] 50 (0, 0))) ∧ Aside0 (w'.heap[gb150]? = some (.cells #[.int .i64 0, .int .i64 0, .int .i64 0, .int .i64 0, (.slice none 0 0)] 50 (0, 0))) ∧ Aside0 (w'.heap[gb154]? = some (.cells #[.int .i64 a0_0, .int .i64 a0_1, .int .i64 a0_2, .int .i64 a0_3, u155004] 50 (0, 0))) ∧ Aside0 (Below w.heap.size w w'))
      case atStart => exact ⟨(0), (x155004_1), (u155004), (by first | rfl | (simp; done) | (simp [*]; done)), H', ⟨Nat.le_refl _⟩, ⟨rkx HO_9⟩, ⟨rkx HO_155004⟩, ⟨bkx BK149⟩, ⟨bkx BK150⟩, ⟨bkx BK154⟩, ⟨hb3 HB GE149 GE150 GE154⟩⟩
      case round =>
       clear H'
       try clear c1
       try clear c2
       try clear p2
       try clear c3
       try clear c5
       try clear c6
       try clear c6b0
       try clear c6b1
       try clear p6
       try clear c7
       try clear c7b0
       try clear c7b1
       try clear c10
       try clear c15
       try clear c16
       try clear c24
       try clear c24b0
       try clear c28
       try clear c29
       try clear hcz11_0
       try clear hcz11_1
       try clear hcz11_2
       try clear hcz11_3
       try clear hcz11_4
       try clear hcz13_0
       try clear hcz13_1
       try clear hcz13_2
       try clear hcz13_3
       try clear hcz13_4
       try clear hcz17_0
       try clear hcz17_1
       try clear hcz17_2
       try clear hcz17_3
       try clear hcz17_4
       try clear hcz18_0
       try clear hcz18_1
       try clear hcz18_2
       try clear hcz18_3
       try clear hcz18_4
       try clear hcz22_0
       try clear hcz22_1
       try clear hcz22_2
       try clear hcz22_3
       try clear hcz22_4
       try clear hcz23_0
       try clear hcz23_1
       try clear hcz23_2
       try clear hcz23_3
       try clear hcz23_4
       try clear hcz30_0
       try clear hcz30_1
       try clear hcz30_2
       try clear hcz30_3
       try clear hcz30_4
       try clear hfz11_0
       try clear hfz11_1
       try clear hfz11_2
       try clear hfz11_3
       try clear hfz11_4
       try clear hfz13_0
       try clear hfz13_1
       try clear hfz13_2
       try clear hfz13_3
       try clear hfz13_4
       try clear hfz17_0
       try clear hfz17_1
       try clear hfz17_2
       try clear hfz17_3
       try clear hfz17_4
       try clear hfz18_0
       try clear hfz18_1
       try clear hfz18_2
       try clear hfz18_3
       try clear hfz18_4
       try clear hfz22_0
       try clear hfz22_1
       try clear hfz22_2
       try clear hfz22_3
       try clear hfz22_4
       try clear hfz23_0
       try clear hfz23_1
       try clear hfz23_2
       try clear hfz23_3
       try clear hfz23_4
       try clear hfz30_0
       try clear hfz30_1
       try clear hfz30_2
       try clear hfz30_3
       try clear hfz30_4
       try clear p2
       try clear p6
       obtain ⟨x52_2, x155004_2, u155004, rfl, HA, HK2, HO_9, HO_155004, BK149, BK150, BK154, HB⟩ := hrel
       cases gk with
       | zero => exact absurd HA.out (by simp [morphology_plane_transform_47.l1])
       | succ k2 =>
        have H := HA.out
        clear HA
        simp only [morphology_plane_transform_47.l1] at H
        by_cases c31 : x52_2 < a0_0
        ·rw [if_pos c31] at H
         have c31b0 : decide (x52_2 < a0_0) = true := decide_eq_true c31
         clear c31
         obtain ⟨ji32, hji32⟩ : ∃ j_ : Int, (mx 0 (wrap64 (x52_2 - a1))) = j_ := ⟨_, rfl⟩
         replace H : (if 0 ≤ (wrap64 ((wrap64 (ji26 * (wrap64 (a0_0 + 1)))) + (mn a0_0 (wrap64 ((wrap64 (x52_2 + a1)) + 1))))) then (if (wrap64 ((wrap64 (ji26 * (wrap64 (a0_0 + 1)))) + (mn a0_0 (wrap64 ((wrap64 (x52_2 + a1)) + 1))))) < (t151.length : Int) then (if 0 ≤ (wrap64 ((wrap64 (ji25 * (wrap64 (a0_0 + 1)))) + (mn a0_0 (wrap64 ((wrap64 (x52_2 + a1)) + 1))))) then (if (wrap64 ((wrap64 (ji25 * (wrap64 (a0_0 + 1)))) + (mn a0_0 (wrap64 ((wrap64 (x52_2 + a1)) + 1))))) < (t151.length : Int) then (if 0 ≤ (wrap64 ((wrap64 (ji26 * (wrap64 (a0_0 + 1)))) + (ji32))) then (if (wrap64 ((wrap64 (ji26 * (wrap64 (a0_0 + 1)))) + (ji32))) < (t151.length : Int) then (if 0 ≤ (wrap64 ((wrap64 (ji25 * (wrap64 (a0_0 + 1)))) + (ji32))) then (if (wrap64 ((wrap64 (ji25 * (wrap64 (a0_0 + 1)))) + (ji32))) < (t151.length : Int) then ((morphology_dilation_1.f (wrap64 ((wrap64 ((wrap64 ((rd t151 (wrap64 ((wrap64 (ji26 * (wrap64 (a0_0 + 1)))) + (mn a0_0 (wrap64 ((wrap64 (x52_2 + a1)) + 1)))))) - (rd t151 (wrap64 ((wrap64 (ji25 * (wrap64 (a0_0 + 1)))) + (mn a0_0 (wrap64 ((wrap64 (x52_2 + a1)) + 1)))))))) - (rd t151 (wrap64 ((wrap64 (ji26 * (wrap64 (a0_0 + 1)))) + (ji32)))))) + (rd t151 (wrap64 ((wrap64 (ji25 * (wrap64 (a0_0 + 1)))) + (ji32)))))) (wrap64 ((wrap64 ((wrap64 (2 * a1)) + 1)) * (wrap64 ((wrap64 (2 * a2)) + 1))))).bind fun t162 => (if 0 ≤ (wrap64 ((wrap64 (x36_1 * a0_0)) + x52_2)) then (if (wrap64 ((wrap64 (x36_1 * a0_0)) + x52_2)) < (x155004_2.length : Int) then (morphology_plane_transform_47.l1 k2 a1 a2 t151 (wrap64 ((wrap64 ((wrap64 (2 * a1)) + 1)) * (wrap64 ((wrap64 (2 * a2)) + 1)))) x36_1 ji25 ji26 a0_1 x36_1 a0_0 (wrap64 (x52_2 + 1)) a0_0 a0_1 a0_2 a0_3 l0_4 a0_0 a0_1 a0_2 a0_3 (x155004_2.set ((wrap64 ((wrap64 (x36_1 * a0_0)) + x52_2)) : Int).toNat t162)) else (none)) else (none))) else (none)) else (none)) else (none)) else (none)) else (none)) else (none)) else (none)) else (none)) = some (r1, r2, r3, r4, r5) := by first | (rw [hji32] at H; exact H) | (simp only [hji32] at H ⊢; exact H)
         have hji32_ : (if 0 < (wrap64 (x52_2 - a1)) then (wrap64 (x52_2 - a1)) else 0) = ji32 := hji32
         obtain ⟨ji33, hji33⟩ : ∃ j_ : Int, (mn a0_0 (wrap64 ((wrap64 (x52_2 + a1)) + 1))) = j_ := ⟨_, rfl⟩
         replace H : (if 0 ≤ (wrap64 ((wrap64 (ji26 * (wrap64 (a0_0 + 1)))) + (ji33))) then (if (wrap64 ((wrap64 (ji26 * (wrap64 (a0_0 + 1)))) + (ji33))) < (t151.length : Int) then (if 0 ≤ (wrap64 ((wrap64 (ji25 * (wrap64 (a0_0 + 1)))) + (ji33))) then (if (wrap64 ((wrap64 (ji25 * (wrap64 (a0_0 + 1)))) + (ji33))) < (t151.length : Int) then (if 0 ≤ (wrap64 ((wrap64 (ji26 * (wrap64 (a0_0 + 1)))) + (ji32))) then (if (wrap64 ((wrap64 (ji26 * (wrap64 (a0_0 + 1)))) + (ji32))) < (t151.length : Int) then (if 0 ≤ (wrap64 ((wrap64 (ji25 * (wrap64 (a0_0 + 1)))) + (ji32))) then (if (wrap64 ((wrap64 (ji25 * (wrap64 (a0_0 + 1)))) + (ji32))) < (t151.length : Int) then ((morphology_dilation_1.f (wrap64 ((wrap64 ((wrap64 ((rd t151 (wrap64 ((wrap64 (ji26 * (wrap64 (a0_0 + 1)))) + (ji33)))) - (rd t151 (wrap64 ((wrap64 (ji25 * (wrap64 (a0_0 + 1)))) + (ji33)))))) - (rd t151 (wrap64 ((wrap64 (ji26 * (wrap64 (a0_0 + 1)))) + (ji32)))))) + (rd t151 (wrap64 ((wrap64 (ji25 * (wrap64 (a0_0 + 1)))) + (ji32)))))) (wrap64 ((wrap64 ((wrap64 (2 * a1)) + 1)) * (wrap64 ((wrap64 (2 * a2)) + 1))))).bind fun t162 => (if 0 ≤ (wrap64 ((wrap64 (x36_1 * a0_0)) + x52_2)) then (if (wrap64 ((wrap64 (x36_1 * a0_0)) + x52_2)) < (x155004_2.length : Int) then (morphology_plane_transform_47.l1 k2 a1 a2 t151 (wrap64 ((wrap64 ((wrap64 (2 * a1)) + 1)) * (wrap64 ((wrap64 (2 * a2)) + 1)))) x36_1 ji25 ji26 a0_1 x36_1 a0_0 (wrap64 (x52_2 + 1)) a0_0 a0_1 a0_2 a0_3 l0_4 a0_0 a0_1 a0_2 a0_3 (x155004_2.set ((wrap64 ((wrap64 (x36_1 * a0_0)) + x52_2)) : Int).toNat t162)) else (none)) else (none))) else (none)) else (none)) else (none)) else (none)) else (none)) else (none)) else (none)) else (none)) = some (r1, r2, r3, r4, r5) := by first | (rw [hji33] at H; exact H) | (simp only [hji33] at H ⊢; exact H)
         have hji33_ : (if (wrap64 ((wrap64 (x52_2 + a1)) + 1)) < a0_0 then (wrap64 ((wrap64 (x52_2 + a1)) + 1)) else a0_0) = ji33 := hji33
         obtain ⟨ji34, hji34⟩ : ∃ j_ : Int, (wrap64 ((wrap64 (ji26 * (wrap64 (a0_0 + 1)))) + (ji33))) = j_ := ⟨_, rfl⟩
         replace H : (if 0 ≤ (ji34) then (if (ji34) < (t151.length : Int) then (if 0 ≤ (wrap64 ((wrap64 (ji25 * (wrap64 (a0_0 + 1)))) + (ji33))) then (if (wrap64 ((wrap64 (ji25 * (wrap64 (a0_0 + 1)))) + (ji33))) < (t151.length : Int) then (if 0 ≤ (wrap64 ((wrap64 (ji26 * (wrap64 (a0_0 + 1)))) + (ji32))) then (if (wrap64 ((wrap64 (ji26 * (wrap64 (a0_0 + 1)))) + (ji32))) < (t151.length : Int) then (if 0 ≤ (wrap64 ((wrap64 (ji25 * (wrap64 (a0_0 + 1)))) + (ji32))) then (if (wrap64 ((wrap64 (ji25 * (wrap64 (a0_0 + 1)))) + (ji32))) < (t151.length : Int) then ((morphology_dilation_1.f (wrap64 ((wrap64 ((wrap64 ((rd t151 (ji34)) - (rd t151 (wrap64 ((wrap64 (ji25 * (wrap64 (a0_0 + 1)))) + (ji33)))))) - (rd t151 (wrap64 ((wrap64 (ji26 * (wrap64 (a0_0 + 1)))) + (ji32)))))) + (rd t151 (wrap64 ((wrap64 (ji25 * (wrap64 (a0_0 + 1)))) + (ji32)))))) (wrap64 ((wrap64 ((wrap64 (2 * a1)) + 1)) * (wrap64 ((wrap64 (2 * a2)) + 1))))).bind fun t162 => (if 0 ≤ (wrap64 ((wrap64 (x36_1 * a0_0)) + x52_2)) then (if (wrap64 ((wrap64 (x36_1 * a0_0)) + x52_2)) < (x155004_2.length : Int) then (morphology_plane_transform_47.l1 k2 a1 a2 t151 (wrap64 ((wrap64 ((wrap64 (2 * a1)) + 1)) * (wrap64 ((wrap64 (2 * a2)) + 1)))) x36_1 ji25 ji26 a0_1 x36_1 a0_0 (wrap64 (x52_2 + 1)) a0_0 a0_1 a0_2 a0_3 l0_4 a0_0 a0_1 a0_2 a0_3 (x155004_2.set ((wrap64 ((wrap64 (x36_1 * a0_0)) + x52_2)) : Int).toNat t162)) else (none)) else (none))) else (none)) else (none)) else (none)) else (none)) else (none)) else (none)) else (none)) else (none)) = some (r1, r2, r3, r4, r5) := by first | (rw [hji34] at H; exact H) | (simp only [hji34] at H ⊢; exact H)
         have hji34w : (IntKind.i64.wrap ((wrap64 (ji26 * (wrap64 (a0_0 + 1)))) + (ji33))) = ji34 := (i64_w _).trans hji34
         by_cases c35 : 0 ≤ (ji34)
         ·rw [if_pos c35] at H
          have c35b0 : decide (0 ≤ (ji34)) = true := decide_eq_true c35
          clear c35
          by_cases c36 : (ji34) < (t151.length : Int)
          ·rw [if_pos c36] at H
           have c36b0 : decide ((ji34) < (t151.length : Int)) = true := decide_eq_true c36
           clear c36
           obtain ⟨ji37, hji37⟩ : ∃ j_ : Int, (wrap64 ((wrap64 (ji25 * (wrap64 (a0_0 + 1)))) + (ji33))) = j_ := ⟨_, rfl⟩
           replace H : (if 0 ≤ (ji37) then (if (ji37) < (t151.length : Int) then (if 0 ≤ (wrap64 ((wrap64 (ji26 * (wrap64 (a0_0 + 1)))) + (ji32))) then (if (wrap64 ((wrap64 (ji26 * (wrap64 (a0_0 + 1)))) + (ji32))) < (t151.length : Int) then (if 0 ≤ (wrap64 ((wrap64 (ji25 * (wrap64 (a0_0 + 1)))) + (ji32))) then (if (wrap64 ((wrap64 (ji25 * (wrap64 (a0_0 + 1)))) + (ji32))) < (t151.length : Int) then ((morphology_dilation_1.f (wrap64 ((wrap64 ((wrap64 ((rd t151 (ji34)) - (rd t151 (ji37)))) - (rd t151 (wrap64 ((wrap64 (ji26 * (wrap64 (a0_0 + 1)))) + (ji32)))))) + (rd t151 (wrap64 ((wrap64 (ji25 * (wrap64 (a0_0 + 1)))) + (ji32)))))) (wrap64 ((wrap64 ((wrap64 (2 * a1)) + 1)) * (wrap64 ((wrap64 (2 * a2)) + 1))))).bind fun t162 => (if 0 ≤ (wrap64 ((wrap64 (x36_1 * a0_0)) + x52_2)) then (if (wrap64 ((wrap64 (x36_1 * a0_0)) + x52_2)) < (x155004_2.length : Int) then (morphology_plane_transform_47.l1 k2 a1 a2 t151 (wrap64 ((wrap64 ((wrap64 (2 * a1)) + 1)) * (wrap64 ((wrap64 (2 * a2)) + 1)))) x36_1 ji25 ji26 a0_1 x36_1 a0_0 (wrap64 (x52_2 + 1)) a0_0 a0_1 a0_2 a0_3 l0_4 a0_0 a0_1 a0_2 a0_3 (x155004_2.set ((wrap64 ((wrap64 (x36_1 * a0_0)) + x52_2)) : Int).toNat t162)) else (none)) else (none))) else (none)) else (none)) else (none)) else (none)) else (none)) else (none)) = some (r1, r2, r3, r4, r5) := by first | (rw [hji37] at H; exact H) | (simp only [hji37] at H ⊢; exact H)
           have hji37w : (IntKind.i64.wrap ((wrap64 (ji25 * (wrap64 (a0_0 + 1)))) + (ji33))) = ji37 := (i64_w _).trans hji37
           by_cases c38 : 0 ≤ (ji37)
           ·rw [if_pos c38] at H
            have c38b0 : decide (0 ≤ (ji37)) = true := decide_eq_true c38
            clear c38
            by_cases c39 : (ji37) < (t151.length : Int)
            ·rw [if_pos c39] at H
             have c39b0 : decide ((ji37) < (t151.length : Int)) = true := decide_eq_true c39
             clear c39
             obtain ⟨ji40, hji40⟩ : ∃ j_ : Int, (wrap64 ((wrap64 (ji26 * (wrap64 (a0_0 + 1)))) + (ji32))) = j_ := ⟨_, rfl⟩
             replace H : (if 0 ≤ (ji40) then (if (ji40) < (t151.length : Int) then (if 0 ≤ (wrap64 ((wrap64 (ji25 * (wrap64 (a0_0 + 1)))) + (ji32))) then (if (wrap64 ((wrap64 (ji25 * (wrap64 (a0_0 + 1)))) + (ji32))) < (t151.length : Int) then ((morphology_dilation_1.f (wrap64 ((wrap64 ((wrap64 ((rd t151 (ji34)) - (rd t151 (ji37)))) - (rd t151 (ji40)))) + (rd t151 (wrap64 ((wrap64 (ji25 * (wrap64 (a0_0 + 1)))) + (ji32)))))) (wrap64 ((wrap64 ((wrap64 (2 * a1)) + 1)) * (wrap64 ((wrap64 (2 * a2)) + 1))))).bind fun t162 => (if 0 ≤ (wrap64 ((wrap64 (x36_1 * a0_0)) + x52_2)) then (if (wrap64 ((wrap64 (x36_1 * a0_0)) + x52_2)) < (x155004_2.length : Int) then (morphology_plane_transform_47.l1 k2 a1 a2 t151 (wrap64 ((wrap64 ((wrap64 (2 * a1)) + 1)) * (wrap64 ((wrap64 (2 * a2)) + 1)))) x36_1 ji25 ji26 a0_1 x36_1 a0_0 (wrap64 (x52_2 + 1)) a0_0 a0_1 a0_2 a0_3 l0_4 a0_0 a0_1 a0_2 a0_3 (x155004_2.set ((wrap64 ((wrap64 (x36_1 * a0_0)) + x52_2)) : Int).toNat t162)) else (none)) else (none))) else (none)) else (none)) else (none)) else (none)) = some (r1, r2, r3, r4, r5) := by first | (rw [hji40] at H; exact H) | (simp only [hji40] at H ⊢; exact H)
             have hji40w : (IntKind.i64.wrap ((wrap64 (ji26 * (wrap64 (a0_0 + 1)))) + (ji32))) = ji40 := (i64_w _).trans hji40
             by_cases c41 : 0 ≤ (ji40)
             ·rw [if_pos c41] at H
              have c41b0 : decide (0 ≤ (ji40)) = true := decide_eq_true c41
              clear c41
              by_cases c42 : (ji40) < (t151.length : Int)
              ·rw [if_pos c42] at H
               have c42b0 : decide ((ji40) < (t151.length : Int)) = true := decide_eq_true c42
               clear c42
               obtain ⟨ji43, hji43⟩ : ∃ j_ : Int, (wrap64 ((wrap64 (ji25 * (wrap64 (a0_0 + 1)))) + (ji32))) = j_ := ⟨_, rfl⟩
               replace H : (if 0 ≤ (ji43) then (if (ji43) < (t151.length : Int) then ((morphology_dilation_1.f (wrap64 ((wrap64 ((wrap64 ((rd t151 (ji34)) - (rd t151 (ji37)))) - (rd t151 (ji40)))) + (rd t151 (ji43)))) (wrap64 ((wrap64 ((wrap64 (2 * a1)) + 1)) * (wrap64 ((wrap64 (2 * a2)) + 1))))).bind fun t162 => (if 0 ≤ (wrap64 ((wrap64 (x36_1 * a0_0)) + x52_2)) then (if (wrap64 ((wrap64 (x36_1 * a0_0)) + x52_2)) < (x155004_2.length : Int) then (morphology_plane_transform_47.l1 k2 a1 a2 t151 (wrap64 ((wrap64 ((wrap64 (2 * a1)) + 1)) * (wrap64 ((wrap64 (2 * a2)) + 1)))) x36_1 ji25 ji26 a0_1 x36_1 a0_0 (wrap64 (x52_2 + 1)) a0_0 a0_1 a0_2 a0_3 l0_4 a0_0 a0_1 a0_2 a0_3 (x155004_2.set ((wrap64 ((wrap64 (x36_1 * a0_0)) + x52_2)) : Int).toNat t162)) else (none)) else (none))) else (none)) else (none)) = some (r1, r2, r3, r4, r5) := by first | (rw [hji43] at H; exact H) | (simp only [hji43] at H ⊢; exact H)
               have hji43w : (IntKind.i64.wrap ((wrap64 (ji25 * (wrap64 (a0_0 + 1)))) + (ji32))) = ji43 := (i64_w _).trans hji43
               by_cases c44 : 0 ≤ (ji43)
               ·rw [if_pos c44] at H
                have c44b0 : decide (0 ≤ (ji43)) = true := decide_eq_true c44
                clear c44
                by_cases c45 : (ji43) < (t151.length : Int)
                ·rw [if_pos c45] at H
                 have c45b0 : decide ((ji43) < (t151.length : Int)) = true := decide_eq_true c45
                 clear c45
                 replace H := Option.bind_eq_some_iff.mp H
                 obtain ⟨t162, A460, H⟩ := H
                 replace H : (if 0 ≤ (wrap64 ((wrap64 (x36_1 * a0_0)) + x52_2)) then (if (wrap64 ((wrap64 (x36_1 * a0_0)) + x52_2)) < (x155004_2.length : Int) then (morphology_plane_transform_47.l1 k2 a1 a2 t151 (wrap64 ((wrap64 ((wrap64 (2 * a1)) + 1)) * (wrap64 ((wrap64 (2 * a2)) + 1)))) x36_1 ji25 ji26 a0_1 x36_1 a0_0 (wrap64 (x52_2 + 1)) a0_0 a0_1 a0_2 a0_3 l0_4 a0_0 a0_1 a0_2 a0_3 (x155004_2.set ((wrap64 ((wrap64 (x36_1 * a0_0)) + x52_2)) : Int).toNat t162)) else (none)) else (none)) = some (r1, r2, r3, r4, r5) := H
                 have A46 := Aside0.mk A460
                 clear A460
                 obtain ⟨ji47, hji47⟩ : ∃ j_ : Int, (wrap64 ((wrap64 (x36_1 * a0_0)) + x52_2)) = j_ := ⟨_, rfl⟩
                 replace H : (if 0 ≤ (ji47) then (if (ji47) < (x155004_2.length : Int) then (morphology_plane_transform_47.l1 k2 a1 a2 t151 (wrap64 ((wrap64 ((wrap64 (2 * a1)) + 1)) * (wrap64 ((wrap64 (2 * a2)) + 1)))) x36_1 ji25 ji26 a0_1 x36_1 a0_0 (wrap64 (x52_2 + 1)) a0_0 a0_1 a0_2 a0_3 l0_4 a0_0 a0_1 a0_2 a0_3 (x155004_2.set ((ji47) : Int).toNat t162)) else (none)) else (none)) = some (r1, r2, r3, r4, r5) := by first | (rw [hji47] at H; exact H) | (simp only [hji47] at H ⊢; exact H)
                 (try rw [hji47] at A46)
                 have hji47w : (IntKind.i64.wrap ((wrap64 (x36_1 * a0_0)) + x52_2)) = ji47 := (i64_w _).trans hji47
                 by_cases c48 : 0 ≤ (ji47)
                 ·rw [if_pos c48] at H
                  have c48b0 : decide (0 ≤ (ji47)) = true := decide_eq_true c48
                  clear c48
                  by_cases c49 : (ji47) < (x155004_2.length : Int)
                  ·rw [if_pos c49] at H
                   have c49b0 : decide ((ji47) < (x155004_2.length : Int)) = true := decide_eq_true c49
                   clear c49
                   obtain ⟨y163, hy163⟩ : ∃ y_ : List Bool, y_ = (x155004_2.set ((ji47) : Int).toNat t162) := ⟨_, rfl⟩
                   replace H : (morphology_plane_transform_47.l1 k2 a1 a2 t151 (wrap64 ((wrap64 ((wrap64 (2 * a1)) + 1)) * (wrap64 ((wrap64 (2 * a2)) + 1)))) x36_1 ji25 ji26 a0_1 x36_1 a0_0 (wrap64 (x52_2 + 1)) a0_0 a0_1 a0_2 a0_3 l0_4 a0_0 a0_1 a0_2 a0_3 y163) = some (r1, r2, r3, r4, r5) := by first | (rw [hy163]; with_reducible exact H) | (have H2_ := (Option.bind_some _ _).symm.trans H; rw [hy163]; with_reducible exact H2_) | (have H2_ := (Option.bind_some _ _).symm.trans H; with_reducible exact H2_) | with_reducible exact H | (rw [hy163]; exact H) | exact H
                   have Ny163 := Aside0.mk hy163
                   clear hy163
                   have H' := Aside0.mk H
                   clear H
                   try go_wp2
                   have n0_ := Aside0.mk (Kd.R_drew HO_9.out)
                   have n1_ := Aside0.mk (Kd.R_drew HO_155004.out)
                   have n2_ := Aside0.mk (blk_drew BK149.out)
                   have n3_ := Aside0.mk (blk_drew BK150.out)
                   have n4_ := Aside0.mk (blk_drew BK154.out)
                   have n5_ := Aside0.mk (below_drew1 HB.out)
                   clear HO_9
                   clear HO_155004
                   clear BK149
                   clear BK150
                   clear BK154
                   clear HB
                   have HO_9 := n0_
                   have HO_155004 := n1_
                   have BK149 := n2_
                   have BK150 := n3_
                   have BK154 := n4_
                   have HB := n5_
                   clear n0_ n1_ n2_ n3_ n4_ n5_
                   refine start_ (n := 13) (S := fun w' => w'.cell? ⟨gb149, 0, none⟩ = some (.int .i64 a0_0) ∧ w'.cell? ⟨gb149, 1, none⟩ = some (.int .i64 a0_1) ∧ w'.cell? ⟨gb149, 2, none⟩ = some (.int .i64 a0_2) ∧ w'.cell? ⟨gb149, 3, none⟩ = some (.int .i64 a0_3) ∧ w'.cell? ⟨gb149, 4, none⟩ = some (.slice A0_4 l0_4.length c0_4)) (ds := []) (bA 13 0) (by kernel_rfl) rfl rfl ⟨(blk_cell BK149.out 0).trans rfl, (blk_cell BK149.out 1).trans rfl, (blk_cell BK149.out 2).trans rfl, (blk_cell BK149.out 3).trans rfl, (blk_cell BK149.out 4).trans rfl⟩ (fun hHeld => ?_); refine with_tabW morphology_plane_transform_47.tab12 morphology_plane_transform_47.bits12 (fun HT_ HW_ => ?_)
                   generalize wr.drew = w51 at HO_9 HO_155004 BK149 BK150 BK154 HB hHeld ⊢
                   refine pt HT_ 0 55 ?_
                   refine pt HT_ 1 56 ?_
                   refine pt HT_ 2 57 ?_
                   refine pt HT_ 3 58 ?_
                   refine pt HT_ 4 59 ?_
                   refine pt HT_ 6 61 ?_
                   refine pt HT_ 7 62 ?_
                   refine pt HT_ 8 63 ?_
                   refine pt HT_ 9 64 ?_
                   refine pt HT_ 11 16 ?_
                   refine tk HT_ HW_ hHeld 5 60 ?_
                   refine pt HT_ 10 65 ?_
                   refine pt HT_ 12 17 ?_
                   refine done_ (done_of HT_.out (by kernel_rfl)) ?_
                   try go_wp2
                   have n0_ := Aside0.mk (Kd.R_drew HO_9.out)
                   have n1_ := Aside0.mk (Kd.R_drew HO_155004.out)
                   have n2_ := Aside0.mk (blk_drew BK149.out)
                   have n3_ := Aside0.mk (blk_drew BK150.out)
                   have n4_ := Aside0.mk (blk_drew BK154.out)
                   have n5_ := Aside0.mk (below_drew1 HB.out)
                   clear HO_9
                   clear HO_155004
                   clear BK149
                   clear BK150
                   clear BK154
                   clear HB
                   have HO_9 := n0_
                   have HO_155004 := n1_
                   have BK149 := n2_
                   have BK150 := n3_
                   have BK154 := n4_
                   have HB := n5_
                   clear n0_ n1_ n2_ n3_ n4_ n5_
                   obtain ⟨Ao53, co53, eo53⟩ := Kd.R_slice HO_9.out
                   (first | subst eo53 | (injection eo53 with f1_ f2_ f3_; have f4_ := f1_.symm; have f5_ := f3_.symm; clear f1_ f2_ f3_; subst f4_; subst f5_))
                   have p158 : 0 ≤ ((ji34) : Int) := of_decide_eq_true (by first | (with_reducible assumption) | assumption)
                   have q158 : (ji34) < (t151.length : Int) := of_decide_eq_true (by first | (with_reducible assumption) | assumption)
                   obtain ⟨ad158, e158, hx158_0⟩ := Kd.at_int (Kd.R_reads' HO_9.out).2.2 (ji34) p158 q158
                   cases e158
                   replace p158 := eq_true p158
                   replace q158 := eq_true q158
                   have p159 : 0 ≤ ((ji37) : Int) := of_decide_eq_true (by first | (with_reducible assumption) | assumption)
                   have q159 : (ji37) < (t151.length : Int) := of_decide_eq_true (by first | (with_reducible assumption) | assumption)
                   obtain ⟨ad159, e159, hx159_0⟩ := Kd.at_int (Kd.R_reads' HO_9.out).2.2 (ji37) p159 q159
                   obtain rfl : ad158 = ad159 := (by injection e159)
                   replace p159 := eq_true p159
                   replace q159 := eq_true q159
                   have p160 : 0 ≤ ((ji40) : Int) := of_decide_eq_true (by first | (with_reducible assumption) | assumption)
                   have q160 : (ji40) < (t151.length : Int) := of_decide_eq_true (by first | (with_reducible assumption) | assumption)
                   obtain ⟨ad160, e160, hx160_0⟩ := Kd.at_int (Kd.R_reads' HO_9.out).2.2 (ji40) p160 q160
                   obtain rfl : ad158 = ad160 := (by injection e160)
                   replace p160 := eq_true p160
                   replace q160 := eq_true q160
                   have p161 : 0 ≤ ((ji43) : Int) := of_decide_eq_true (by first | (with_reducible assumption) | assumption)
                   have q161 : (ji43) < (t151.length : Int) := of_decide_eq_true (by first | (with_reducible assumption) | assumption)
                   obtain ⟨ad161, e161, hx161_0⟩ := Kd.at_int (Kd.R_reads' HO_9.out).2.2 (ji43) p161 q161
                   obtain rfl : ad158 = ad161 := (by injection e161)
                   replace p161 := eq_true p161
                   replace q161 := eq_true q161
                   refine start_ (n := 44) (S := fun w' => w'.cell? ⟨gb149, 0, none⟩ = some (.int .i64 a0_0) ∧ w'.cell? ⟨gb149, 1, none⟩ = some (.int .i64 a0_1) ∧ w'.cell? ⟨gb149, 2, none⟩ = some (.int .i64 a0_2) ∧ w'.cell? ⟨gb149, 3, none⟩ = some (.int .i64 a0_3) ∧ w'.cell? ⟨gb149, 4, none⟩ = some (.slice A0_4 l0_4.length c0_4) ∧ w'.cell? (ad158.add ((ji34)).toNat) = some (.int .i64 (rd t151 (ji34))) ∧ w'.cell? (ad158.add ((ji37)).toNat) = some (.int .i64 (rd t151 (ji37))) ∧ w'.cell? (ad158.add ((ji40)).toNat) = some (.int .i64 (rd t151 (ji40))) ∧ w'.cell? (ad158.add ((ji43)).toNat) = some (.int .i64 (rd t151 (ji43)))) (ds := []) (bA 44 0) (by kernel_rfl) rfl rfl ⟨(blk_cell BK149.out 0).trans rfl, (blk_cell BK149.out 1).trans rfl, (blk_cell BK149.out 2).trans rfl, (blk_cell BK149.out 3).trans rfl, (blk_cell BK149.out 4).trans rfl, hx158_0, hx159_0, hx160_0, hx161_0⟩ (fun hHeld => ?_); refine with_tabW morphology_plane_transform_47.tab13 morphology_plane_transform_47.bits13 (fun HT_ HW_ => ?_)
                   generalize w51.drew = w52 at HO_9 HO_155004 BK149 BK150 BK154 HB hx158_0 hx159_0 hx160_0 hx161_0 hHeld ⊢
                   refine pt HT_ 0 66 ?_
                   refine pt HT_ 1 67 ?_
                   refine pt HT_ 2 68 ?_
                   refine pt HT_ 6 72 ?_
                   refine pt HT_ 10 76 ?_
                   refine pt HT_ 11 77 ?_
                   refine pt HT_ 12 78 ?_
                   refine pt HT_ 16 82 ?_
                   refine pt HT_ 21 87 ?_
                   refine pt HT_ 22 88 ?_
                   refine pt HT_ 23 89 ?_
                   refine pt HT_ 27 93 ?_
                   refine pt HT_ 32 98 ?_
                   refine pt HT_ 33 99 ?_
                   refine pt HT_ 34 100 ?_
                   refine pt HT_ 38 104 ?_
                   refine tk HT_ HW_ hHeld 3 69 ?_
                   refine pt HT_ 4 70 ?_
                   refine pt HT_ 5 71 ?_
                   refine pt HT_ 7 73 ?_
                   refine pt HT_ 8 74 ?_
                   refine tk HT_ HW_ hHeld 9 75 ?_
                   refine tk HT_ HW_ hHeld 13 79 ?_
                   refine pt HT_ 14 80 ?_
                   refine pt HT_ 15 81 ?_
                   refine pt HT_ 17 83 ?_
                   refine pt HT_ 18 84 ?_
                   refine tk HT_ HW_ hHeld 19 85 ?_
                   refine pt HT_ 20 86 ?_
                   refine tk HT_ HW_ hHeld 24 90 ?_
                   refine pt HT_ 25 91 ?_
                   refine pt HT_ 26 92 ?_
                   refine pt HT_ 28 94 ?_
                   refine pt HT_ 29 95 ?_
                   refine tk HT_ HW_ hHeld 30 96 ?_
                   refine pt HT_ 31 97 ?_
                   refine tk HT_ HW_ hHeld 35 101 ?_
                   refine pt HT_ 36 102 ?_
                   refine pt HT_ 37 103 ?_
                   refine pt HT_ 39 105 ?_
                   refine pt HT_ 40 106 ?_
                   refine tk HT_ HW_ hHeld 41 107 ?_
                   refine pt HT_ 42 108 ?_
                   refine pt HT_ 43 18 ?_
                   refine done_ (done_of HT_.out (by kernel_rfl)) ?_
                   try go_wp2
                   have n0_ := Aside0.mk (Kd.R_drew HO_9.out)
                   have n1_ := Aside0.mk (Kd.R_drew HO_155004.out)
                   have n2_ := Aside0.mk (blk_drew BK149.out)
                   have n3_ := Aside0.mk (blk_drew BK150.out)
                   have n4_ := Aside0.mk (blk_drew BK154.out)
                   have n5_ := Aside0.mk (below_drew1 HB.out)
                   clear HO_9
                   clear HO_155004
                   clear BK149
                   clear BK150
                   clear BK154
                   clear HB
                   have HO_9 := n0_
                   have HO_155004 := n1_
                   have BK149 := n2_
                   have BK150 := n3_
                   have BK154 := n4_
                   have HB := n5_
                   clear n0_ n1_ n2_ n3_ n4_ n5_
                   refine start_ (n := 14) (S := fun w' => w'.cell? ⟨gb154, 0, none⟩ = some (.int .i64 a0_0) ∧ w'.cell? ⟨gb154, 1, none⟩ = some (.int .i64 a0_1) ∧ w'.cell? ⟨gb154, 2, none⟩ = some (.int .i64 a0_2) ∧ w'.cell? ⟨gb154, 3, none⟩ = some (.int .i64 a0_3) ∧ w'.cell? ⟨gb154, 4, none⟩ = some (u155004) ∧ w'.cell? ⟨gb149, 0, none⟩ = some (.int .i64 a0_0) ∧ w'.cell? ⟨gb149, 1, none⟩ = some (.int .i64 a0_1) ∧ w'.cell? ⟨gb149, 2, none⟩ = some (.int .i64 a0_2) ∧ w'.cell? ⟨gb149, 3, none⟩ = some (.int .i64 a0_3) ∧ w'.cell? ⟨gb149, 4, none⟩ = some (.slice A0_4 l0_4.length c0_4)) (ds := [13]) (bA 14 0) (by kernel_rfl) rfl rfl ⟨(blk_cell BK154.out 0).trans rfl, (blk_cell BK154.out 1).trans rfl, (blk_cell BK154.out 2).trans rfl, (blk_cell BK154.out 3).trans rfl, (blk_cell BK154.out 4).trans rfl, (blk_cell BK149.out 0).trans rfl, (blk_cell BK149.out 1).trans rfl, (blk_cell BK149.out 2).trans rfl, (blk_cell BK149.out 3).trans rfl, (blk_cell BK149.out 4).trans rfl⟩ (fun hHeld => ?_); refine with_tabW morphology_plane_transform_47.tab14 morphology_plane_transform_47.bits14 (fun HT_ HW_ => ?_)
                   generalize w52.drew = w54 at HO_9 HO_155004 BK149 BK150 BK154 HB hHeld ⊢
                   refine pt HT_ 0 109 ?_
                   refine pt HT_ 2 111 ?_
                   refine pt HT_ 3 112 ?_
                   refine pt HT_ 6 115 ?_
                   refine pt HT_ 8 117 ?_
                   refine pt HT_ 9 118 ?_
                   refine pt HT_ 10 119 ?_
                   refine tk HT_ HW_ hHeld 1 110 ?_
                   refine tk HT_ HW_ hHeld 4 113 ?_
                   refine pt HT_ 5 114 ?_
                   refine pt HT_ 7 116 ?_
                   refine one_ (i := 11) (N := some 120) (bA 14 4095) rfl rfl (one_of HT_.out (by kernel_rfl)) (by decide) (fun K hK => ?_)
                   refine goesT_ Try.func47 (by kernel_rfl) rfl #[.int .i64 (wrap64 ((wrap64 ((wrap64 ((rd t151 (ji34)) - (rd t151 (ji37)))) - (rd t151 (ji40)))) + (rd t151 (ji43)))), .int .i64 (wrap64 ((wrap64 ((wrap64 (2 * a1)) + 1)) * (wrap64 ((wrap64 (2 * a2)) + 1))))] (by rfl) rfl rfl (by (try simp only [List.map_toArray, List.map_cons, List.map_nil]); first | done | (simp only [hji34, hji37, hji40, hji43]; rfl) | rfl | (simp only [List.length_drop, List.length_take]; rfl)) ?_
                   with_reducible refine (morphology_dilation_1.calls (wrap64 ((wrap64 ((wrap64 ((rd t151 (ji34)) - (rd t151 (ji37)))) - (rd t151 (ji40)))) + (rd t151 (ji43)))) (wrap64 ((wrap64 ((wrap64 (2 * a1)) + 1)) * (wrap64 ((wrap64 (2 * a2)) + 1)))) t162 _ A46.out).mono ?_
                   rintro e w' ⟨rfl, ⟨nd, rfl⟩⟩
                   refine ⟨_, rfl, ?_⟩
                   have p50 : 0 ≤ ((ji47) : Int) := of_decide_eq_true (by first | (with_reducible assumption) | assumption)
                   have q50 : ((ji47) : Int) < ((x155004_2.length : Int) : Int) := of_decide_eq_true (by first | (with_reducible assumption) | assumption)
                   obtain ⟨go50, co50, eo50, gb50, gl50, cl50, HG50⟩ := Kd.R_form HO_155004.out (by omega)
                   (first | cases eo50 | (injection eo50 with ea_ en_ ec_; (first | subst ea_ | (injection ea_ with ea_; subst ea_)); subst ec_; clear en_))
                   have GB50 := Aside0.mk gb50
                   have GG50 := Aside0.mk HG50
                   clear gb50 gl50 HG50
                   obtain ⟨hx50_0, hf50_0⟩ := Kd.R_celln false HO_155004.out ((ji47) : Int) p50 q50
                   replace p50 := eq_true p50
                   replace q50 := eq_true q50
                   have HP55 := Kd.R_putn HO_155004.out ((ji47) : Int) t162
                   rw [← Ny163.out] at HP55
                   have HQ55 := Aside0.mk HP55
                   clear HP55
                   refine hK.out _ _ ⟨(blk_cell BK154.out 0).trans rfl, (blk_cell BK154.out 1).trans rfl, (blk_cell BK154.out 2).trans rfl, (blk_cell BK154.out 3).trans rfl, (blk_cell BK154.out 4).trans rfl, (blk_cell BK149.out 0).trans rfl, (blk_cell BK149.out 1).trans rfl, (blk_cell BK149.out 2).trans rfl, (blk_cell BK149.out 3).trans rfl, (blk_cell BK149.out 4).trans rfl⟩ (fun hHeld => ?_)
                   clear hK K
                   refine norm_ (a' := ?_) ?_ ?_
                   rotate_left
                   ·show Act.put _ (some 120) _ = _
                    simp only [Act.put, List.setIfInBounds_toArray, List.set_cons_zero, List.set_cons_succ, i64_w, i32_w]
                    rfl
                   refine pt HT_ 12 121 ?_
                   refine last_ (i := 13) (N := none) (bA 14 16383) rfl rfl (one_of HT_.out (by kernel_rfl)) (by decide) (fun K hK => ?_)
                   refine skip_ (w1 := ?_) (by rfl) rfl ?_ ?_
                   rotate_left
                   ·go_simp
                    rfl
                   refine hK.out _ _ ?_
                   clear hK K
                   refine done_ (done_of HT_.out (by kernel_rfl)) ?_
                   try go_wp2
                   go_roundg k2
                   case measure => have := HK1.out; have := HK2.out; omega
                   case rel => exact ⟨(wrap64 (x52_2 + 1)), (y163), (.slice (some ⟨go50, 0, none⟩) x155004_2.length co50), (by first | rfl | (simp; done) | (simp [*]; done)), H', ⟨by have := HK1.out; have := HK2.out; omega⟩, ⟨by refine rkt ?_; exact Kd.R_mono (Kd.R_far (p := ⟨go50, ((ji47) : Int).toNat, none⟩) (Kd.R_types HO_9.out GG50.out (by decide)) (fun _ hk => hk.2) (.bool t162)) (fun _ hk => trivial)⟩, ⟨rkx HQ55⟩, ⟨by refine bkt ?_; refine blk_far ?_ (by have h_ := Kd.R_ne HO_155004.out BK149.out (by decide); intro e_; exact h_ (by rw [e_]; rfl)) _; refine bkt ?_; exact BK149.out⟩, ⟨by refine bkt ?_; refine blk_far ?_ (by have h_ := Kd.R_ne HO_155004.out BK150.out (by decide); intro e_; exact h_ (by rw [e_]; rfl)) _; refine bkt ?_; exact BK150.out⟩, ⟨by refine bkt ?_; refine blk_far ?_ (by have h_ := Kd.R_ne HO_155004.out BK154.out (by decide); intro e_; exact h_ (by rw [e_]; rfl)) _; refine bkt ?_; exact BK154.out⟩, ⟨hb4 HB GB50 GE149 GE150 GE154⟩⟩
                  ·rw [if_neg c49] at H
                   exact absurd H (by simp)
                 ·rw [if_neg c48] at H
                  exact absurd H (by simp)
                ·rw [if_neg c45] at H
                 exact absurd H (by simp)
               ·rw [if_neg c44] at H
                exact absurd H (by simp)
              ·rw [if_neg c42] at H
               exact absurd H (by simp)
             ·rw [if_neg c41] at H
              exact absurd H (by simp)
            ·rw [if_neg c39] at H
             exact absurd H (by simp)
           ·rw [if_neg c38] at H
            exact absurd H (by simp)
          ·rw [if_neg c36] at H
           exact absurd H (by simp)
         ·rw [if_neg c35] at H
          exact absurd H (by simp)
        ·rw [if_neg c31] at H
         have c31b0 : decide (x52_2 < a0_0) = false := decide_eq_false c31
         clear c31
         have H' := Aside0.mk H
         clear H
         go_wp2
         go_roundg k2
         case measure => have := HK1.out; have := HK2.out; omega
         case rel => exact ⟨(wrap64 (x36_1 + 1)), (x155004_2), (u155004), (by first | rfl | (simp; done) | (simp [*]; done)), H', ⟨by have := HK1.out; have := HK2.out; omega⟩, ⟨rkx HO_9⟩, ⟨rkx HO_155004⟩, ⟨bkx BK149⟩, ⟨bkx BK150⟩, ⟨bkx BK154⟩, ⟨hb3 HB GE149 GE150 GE154⟩⟩
     ·rw [if_neg c24] at H
      have c24b0 : decide (x36_1 < a0_1) = false := decide_eq_false c24
      clear c24
      simp only [Option.some.injEq, Prod.mk.injEq] at H
      obtain ⟨rfl, rfl, rfl, rfl, rfl⟩ := H
      have hnb56 := NB154_149.out
      have hnc56 := NB149_154.out
      have hnb57 := NB154_150.out
      have hnc57 := NB150_154.out
      have hcz58_0 : wr.cell? ⟨gb154, 0, none⟩ = some (.int .i64 a0_0) := (blk_cell BK154.out 0).trans rfl
      have hcz58_1 : wr.cell? ⟨gb154, 1, none⟩ = some (.int .i64 a0_1) := (blk_cell BK154.out 1).trans rfl
      have hcz58_2 : wr.cell? ⟨gb154, 2, none⟩ = some (.int .i64 a0_2) := (blk_cell BK154.out 2).trans rfl
      have hcz58_3 : wr.cell? ⟨gb154, 3, none⟩ = some (.int .i64 a0_3) := (blk_cell BK154.out 3).trans rfl
      have hcz58_4 : wr.cell? ⟨gb154, 4, none⟩ = some (u155004) := (blk_cell BK154.out 4).trans rfl
      have hfz58_0 := blk_frozen BK154.out 0
      have hfz58_1 := blk_frozen BK154.out 1
      have hfz58_2 := blk_frozen BK154.out 2
      have hfz58_3 := blk_frozen BK154.out 3
      have hfz58_4 := blk_frozen BK154.out 4
      have hnb59 := NB150_149.out
      have hnc59 := NB149_150.out
      have hcz60_0 : wr.cell? ⟨gb150, 0, none⟩ = some (.int .i64 0) := (blk_cell BK150.out 0).trans rfl
      have hcz60_1 : wr.cell? ⟨gb150, 1, none⟩ = some (.int .i64 0) := (blk_cell BK150.out 1).trans rfl
      have hcz60_2 : wr.cell? ⟨gb150, 2, none⟩ = some (.int .i64 0) := (blk_cell BK150.out 2).trans rfl
      have hcz60_3 : wr.cell? ⟨gb150, 3, none⟩ = some (.int .i64 0) := (blk_cell BK150.out 3).trans rfl
      have hcz60_4 : wr.cell? ⟨gb150, 4, none⟩ = some (.slice none 0 0) := (blk_cell BK150.out 4).trans rfl
      have hfz60_0 := blk_frozen BK150.out 0
      have hfz60_1 := blk_frozen BK150.out 1
      have hfz60_2 := blk_frozen BK150.out 2
      have hfz60_3 := blk_frozen BK150.out 3
      have hfz60_4 := blk_frozen BK150.out 4
      obtain ⟨Ao61, co61, eo61⟩ := Kd.R_slice HO_155004.out
      subst eo61
      go_wp2
      refine bodyPost_ret (results_cell_row rfl _ _ gb150 50 #[.int .i64 a0_0, .int .i64 a0_1, .int .i64 a0_2, .int .i64 a0_3, .slice Ao61 x155004_1.length co61] (0, 0) _ rfl (by refine bkt ?_; refine blk_put (cs := #[.int .i64 a0_0, .int .i64 a0_1, .int .i64 a0_2, .int .i64 a0_3, .slice none 0 0]) ?_ 4 _ rfl; refine bkt ?_; refine blk_put (cs := #[.int .i64 a0_0, .int .i64 a0_1, .int .i64 a0_2, .int .i64 0, .slice none 0 0]) ?_ 3 _ rfl; refine bkt ?_; refine blk_put (cs := #[.int .i64 a0_0, .int .i64 a0_1, .int .i64 0, .int .i64 0, .slice none 0 0]) ?_ 2 _ rfl; refine bkt ?_; refine blk_put (cs := #[.int .i64 a0_0, .int .i64 0, .int .i64 0, .int .i64 0, .slice none 0 0]) ?_ 1 _ rfl; refine bkt ?_; refine blk_put (cs := #[.int .i64 0, .int .i64 0, .int .i64 0, .int .i64 0, .slice none 0 0]) ?_ 0 _ rfl; refine bkt ?_; exact BK150.out) Try.underlying50 rfl (by kernel_rfl)) rfl ?_
      exact ⟨_, by first | rfl | (simp [errW_none, errW_some] <;> rfl) | (simp [*, errW_none, errW_some] <;> rfl), by refine rkt ?_; exact Kd.R_mono (Kd.R_far (p := ⟨gb150, 4, none⟩) (Kd.R_far (p := ⟨gb150, 3, none⟩) (Kd.R_far (p := ⟨gb150, 2, none⟩) (Kd.R_far (p := ⟨gb150, 1, none⟩) (Kd.R_far (p := ⟨gb150, 0, none⟩) (Kd.R_types HO_155004.out BK150.out (by decide)) (fun _ hk => hk.2) (.int .i64 a0_0)) (fun _ hk => hk.2) (.int .i64 a0_1)) (fun _ hk => hk.2) (.int .i64 a0_2)) (fun _ hk => hk.2) (.int .i64 a0_3)) (fun _ hk => hk.2) (.slice Ao61 x155004_1.length co61)) (fun _ hk => trivial), by repeat (first | (with_reducible first | exact HB.out | apply below_alloc | apply pw_below_drewN | apply below_drew1 | refine below_set ?_ GE149.out | refine below_set ?_ GE150.out | refine below_set ?_ GE154.out) | exact HB.out)⟩
  ·rw [if_neg c7] at H
   exact absurd H (by simp)
 ·rw [if_neg c6] at H
  exact absurd H (by simp)

/-! ### morphology_plane_transform_52: function 37 -/
mutual
def morphology_plane_transform_52.l0 : Nat → Int → Int → List Int → Int → Int → Int → Int → Int → Int → Int → List Bool → Int → Int → Int → Int → List Bool → Option (Int × Int × Int × Int × List Bool)
 | 0, _, _, _, _, _, _, _, _, _, _, _, _, _, _, _, _ => none
 | k + 1, x1, x2, x9, x11, x35, x36, x165000, x165001, x165002, x165003, x165004, x170000, x170001, x170002, x170003, x170004 => if x36 < x35 then (morphology_plane_transform_52.l1 k x1 x2 x9 x11 x36 (mx 0 (wrap64 (x36 - x2))) (mn x165001 (wrap64 ((wrap64 (x36 + x2)) + 1))) x35 x36 x165000 0 x165000 x165001 x165002 x165003 x165004 x170000 x170001 x170002 x170003 x170004) else (some (x170000, x170001, x170002, x170003, x170004))
def morphology_plane_transform_52.l1 : Nat → Int → Int → List Int → Int → Int → Int → Int → Int → Int → Int → Int → Int → Int → Int → Int → List Bool → Int → Int → Int → Int → List Bool → Option (Int × Int × Int × Int × List Bool)
 | 0, _, _, _, _, _, _, _, _, _, _, _, _, _, _, _, _, _, _, _, _, _ => none
 | k + 1, x1, x2, x9, x11, x12, x13, x14, x35, x36, x51, x52, x165000, x165001, x165002, x165003, x165004, x170000, x170001, x170002, x170003, x170004 => if x52 < x51 then (if 0 ≤ (wrap64 ((wrap64 (x14 * (wrap64 (x165000 + 1)))) + (mn x165000 (wrap64 ((wrap64 (x52 + x1)) + 1))))) then (if (wrap64 ((wrap64 (x14 * (wrap64 (x165000 + 1)))) + (mn x165000 (wrap64 ((wrap64 (x52 + x1)) + 1))))) < (x9.length : Int) then (if 0 ≤ (wrap64 ((wrap64 (x13 * (wrap64 (x165000 + 1)))) + (mn x165000 (wrap64 ((wrap64 (x52 + x1)) + 1))))) then (if (wrap64 ((wrap64 (x13 * (wrap64 (x165000 + 1)))) + (mn x165000 (wrap64 ((wrap64 (x52 + x1)) + 1))))) < (x9.length : Int) then (if 0 ≤ (wrap64 ((wrap64 (x14 * (wrap64 (x165000 + 1)))) + (mx 0 (wrap64 (x52 - x1))))) then (if (wrap64 ((wrap64 (x14 * (wrap64 (x165000 + 1)))) + (mx 0 (wrap64 (x52 - x1))))) < (x9.length : Int) then (if 0 ≤ (wrap64 ((wrap64 (x13 * (wrap64 (x165000 + 1)))) + (mx 0 (wrap64 (x52 - x1))))) then (if (wrap64 ((wrap64 (x13 * (wrap64 (x165000 + 1)))) + (mx 0 (wrap64 (x52 - x1))))) < (x9.length : Int) then ((morphology_majority_1.f (wrap64 ((wrap64 ((wrap64 ((rd x9 (wrap64 ((wrap64 (x14 * (wrap64 (x165000 + 1)))) + (mn x165000 (wrap64 ((wrap64 (x52 + x1)) + 1)))))) - (rd x9 (wrap64 ((wrap64 (x13 * (wrap64 (x165000 + 1)))) + (mn x165000 (wrap64 ((wrap64 (x52 + x1)) + 1)))))))) - (rd x9 (wrap64 ((wrap64 (x14 * (wrap64 (x165000 + 1)))) + (mx 0 (wrap64 (x52 - x1)))))))) + (rd x9 (wrap64 ((wrap64 (x13 * (wrap64 (x165000 + 1)))) + (mx 0 (wrap64 (x52 - x1)))))))) x11).bind fun t177 => (if 0 ≤ (wrap64 ((wrap64 (x12 * x165000)) + x52)) then (if (wrap64 ((wrap64 (x12 * x165000)) + x52)) < (x170004.length : Int) then (morphology_plane_transform_52.l1 k x1 x2 x9 x11 x12 x13 x14 x35 x36 x51 (wrap64 (x52 + 1)) x165000 x165001 x165002 x165003 x165004 x170000 x170001 x170002 x170003 (x170004.set ((wrap64 ((wrap64 (x12 * x165000)) + x52)) : Int).toNat t177)) else (none)) else (none))) else (none)) else (none)) else (none)) else (none)) else (none)) else (none)) else (none)) else (none)) else (morphology_plane_transform_52.l0 k x1 x2 x9 x11 x35 (wrap64 (x36 + 1)) x165000 x165001 x165002 x165003 x165004 x170000 x170001 x170002 x170003 x170004)
end
def morphology_plane_transform_52.f (k : Nat) (a0_0 : Int) (a0_1 : Int) (a0_2 : Int) (a0_3 : Int) (l0_4 : List Bool) (a1 : Int) (a2 : Int)  : Option (Int × Int × Int × Int × List Bool) := (morphology_plane_sums.f k a0_0 a0_1 a0_2 a0_3 l0_4).bind fun t166 => (if 0 ≤ (l0_4.length : Int) then (if ((l0_4.length : Int) : Int).toNat ≤ 281474976710656 then (morphology_plane_transform_52.l0 k a1 a2 t166 (wrap64 ((wrap64 ((wrap64 (2 * a1)) + 1)) * (wrap64 ((wrap64 (2 * a2)) + 1)))) a0_1 0 a0_0 a0_1 a0_2 a0_3 l0_4 a0_0 a0_1 a0_2 a0_3 (List.replicate ((l0_4.length : Int) : Int).toNat false)) else (none)) else (none))
theorem morphology_plane_transform_52.mono_l : ∀ k, (∀ y0 y1 y2 y3 y4 y5 y6 y7 y8 y9 y10 y11 y12 y13 y14 y15, LeO (morphology_plane_transform_52.l0 k y0 y1 y2 y3 y4 y5 y6 y7 y8 y9 y10 y11 y12 y13 y14 y15) (morphology_plane_transform_52.l0 (k + 1) y0 y1 y2 y3 y4 y5 y6 y7 y8 y9 y10 y11 y12 y13 y14 y15)) ∧ (∀ y0 y1 y2 y3 y4 y5 y6 y7 y8 y9 y10 y11 y12 y13 y14 y15 y16 y17 y18 y19 y20, LeO (morphology_plane_transform_52.l1 k y0 y1 y2 y3 y4 y5 y6 y7 y8 y9 y10 y11 y12 y13 y14 y15 y16 y17 y18 y19 y20) (morphology_plane_transform_52.l1 (k + 1) y0 y1 y2 y3 y4 y5 y6 y7 y8 y9 y10 y11 y12 y13 y14 y15 y16 y17 y18 y19 y20))
 | 0 => ⟨fun _ _ _ _ _ _ _ _ _ _ _ _ _ _ _ _ r h => by simp [morphology_plane_transform_52.l0] at h, fun _ _ _ _ _ _ _ _ _ _ _ _ _ _ _ _ _ _ _ _ _ r h => by simp [morphology_plane_transform_52.l1] at h⟩
 | k + 1 => by
  obtain ⟨ih0, ih1⟩ := morphology_plane_transform_52.mono_l k
  refine ⟨?_, ?_⟩
  ·intro y0 y1 y2 y3 y4 y5 y6 y7 y8 y9 y10 y11 y12 y13 y14 y15
   unfold morphology_plane_transform_52.l0
   repeat' first
   | (with_reducible exact ih0 _ _ _ _ _ _ _ _ _ _ _ _ _ _ _ _)
   | (with_reducible exact ih1 _ _ _ _ _ _ _ _ _ _ _ _ _ _ _ _ _ _ _ _ _)
   | (with_reducible exact morphology_plane_sums.mono _ _ _ _ _ _)
   | (with_reducible exact LeO.refl _)
   | (with_reducible exact LeO.none _)
   | (with_reducible refine LeO.ite ?_ ?_)
   | (with_reducible refine LeO.bind ?_ (fun _ => ?_))
   | exact ih0 _ _ _ _ _ _ _ _ _ _ _ _ _ _ _ _
   | exact ih1 _ _ _ _ _ _ _ _ _ _ _ _ _ _ _ _ _ _ _ _ _
   | exact morphology_plane_sums.mono _ _ _ _ _ _
   | exact LeO.none _
   | refine LeO.ite ?_ ?_
   | refine LeO.bind ?_ (fun _ => ?_)
  ·intro y0 y1 y2 y3 y4 y5 y6 y7 y8 y9 y10 y11 y12 y13 y14 y15 y16 y17 y18 y19 y20
   unfold morphology_plane_transform_52.l1
   repeat' first
   | (with_reducible exact ih0 _ _ _ _ _ _ _ _ _ _ _ _ _ _ _ _)
   | (with_reducible exact ih1 _ _ _ _ _ _ _ _ _ _ _ _ _ _ _ _ _ _ _ _ _)
   | (with_reducible exact morphology_plane_sums.mono _ _ _ _ _ _)
   | (with_reducible exact LeO.refl _)
   | (with_reducible exact LeO.none _)
   | (with_reducible refine LeO.ite ?_ ?_)
   | (with_reducible refine LeO.bind ?_ (fun _ => ?_))
   | exact ih0 _ _ _ _ _ _ _ _ _ _ _ _ _ _ _ _
   | exact ih1 _ _ _ _ _ _ _ _ _ _ _ _ _ _ _ _ _ _ _ _ _
   | exact morphology_plane_sums.mono _ _ _ _ _ _
   | exact LeO.none _
   | refine LeO.ite ?_ ?_
   | refine LeO.bind ?_ (fun _ => ?_)
theorem morphology_plane_transform_52.mono : ∀ a0 a1 a2 a3 a4 a5 a6 k, LeO (morphology_plane_transform_52.f k a0 a1 a2 a3 a4 a5 a6) (morphology_plane_transform_52.f (k + 1) a0 a1 a2 a3 a4 a5 a6) := by
 intro a0 a1 a2 a3 a4 a5 a6 k
 obtain ⟨ih0, ih1⟩ := morphology_plane_transform_52.mono_l k
 unfold morphology_plane_transform_52.f
 repeat' first
   | (with_reducible exact ih0 _ _ _ _ _ _ _ _ _ _ _ _ _ _ _ _)
   | (with_reducible exact ih1 _ _ _ _ _ _ _ _ _ _ _ _ _ _ _ _ _ _ _ _ _)
   | (with_reducible exact morphology_plane_sums.mono _ _ _ _ _ _)
   | (with_reducible exact LeO.refl _)
   | (with_reducible exact LeO.none _)
   | (with_reducible refine LeO.ite ?_ ?_)
   | (with_reducible refine LeO.bind ?_ (fun _ => ?_))
   | exact ih0 _ _ _ _ _ _ _ _ _ _ _ _ _ _ _ _
   | exact ih1 _ _ _ _ _ _ _ _ _ _ _ _ _ _ _ _ _ _ _ _ _
   | exact morphology_plane_sums.mono _ _ _ _ _ _
   | exact LeO.none _
   | refine LeO.ite ?_ ?_
   | refine LeO.bind ?_ (fun _ => ?_)
def morphology_plane_transform_52.T8 : Bool × List (List Nat × List Nat) := (true, [([], []), ([], []), ([0, 1], [0, 1]), ([2], [2]), ([], []), ([4], [4]), ([], []), ([], []), ([6, 7], [6, 7]), ([8], [8]), ([5, 9], [5, 9]), ([3, 0, 1, 2, 3], [3]), ([10, 11, 0, 1, 2, 3, 4, 5, 6, 7, 8, 9, 10, 11], [10])])
def morphology_plane_transform_52.B8 : List Nat := [0, 0, 3, 7, 0, 16, 0, 0, 192, 448, 1008, 15, 4095]
theorem morphology_plane_transform_52.tab8 : rtab .any (opsOf Try.f37 8) = morphology_plane_transform_52.T8 := by kernel_rfl
theorem morphology_plane_transform_52.bits8 : waitsOk morphology_plane_transform_52.T8.2 morphology_plane_transform_52.B8 = true := by kernel_rfl
def morphology_plane_transform_52.T12 : Bool × List (List Nat × List Nat) := (true, [([], []), ([], []), ([0, 1], [0, 1]), ([2], [2]), ([], []), ([4], [4]), ([], []), ([], []), ([6, 7], [6, 7]), ([8], [8]), ([5, 9], [5, 9]), ([3, 0, 1, 2, 3], [3]), ([10, 11, 0, 1, 2, 3, 4, 5, 6, 7, 8, 9, 10, 11], [10])])
def morphology_plane_transform_52.B12 : List Nat := [0, 0, 3, 7, 0, 16, 0, 0, 192, 448, 1008, 15, 4095]
theorem morphology_plane_transform_52.tab12 : rtab .any (opsOf Try.f37 12) = morphology_plane_transform_52.T12 := by kernel_rfl
theorem morphology_plane_transform_52.bits12 : waitsOk morphology_plane_transform_52.T12.2 morphology_plane_transform_52.B12 = true := by kernel_rfl
def morphology_plane_transform_52.T13 : Bool × List (List Nat × List Nat) := (true, [([], []), ([], []), ([], []), ([2], [2]), ([3], [3]), ([1, 4], [1, 4]), ([], []), ([5, 6], [5, 6]), ([0, 7], [0, 7]), ([8], [8]), ([], []), ([], []), ([], []), ([12], [12]), ([13], [13]), ([11, 14], [11, 14]), ([], []), ([15, 16], [15, 16]), ([10, 17], [10, 17]), ([18], [18]), ([9, 19], [9, 19]), ([], []), ([], []), ([], []), ([23], [23]), ([24], [24]), ([22, 25], [22, 25]), ([], []), ([26, 27], [26, 27]), ([21, 28], [21, 28]), ([29], [29]), ([20, 30], [20, 30]), ([], []), ([], []), ([], []), ([34], [34]), ([35], [35]), ([33, 36], [33, 36]), ([], []), ([37, 38], [37, 38]), ([32, 39], [32, 39]), ([40], [40]), ([31, 41], [31, 41]), ([42, 0, 1, 2, 3, 4, 5, 6, 7, 8, 9, 10, 11, 12, 13, 14, 15, 16, 17, 18, 19, 20, 21, 22, 23, 24, 25, 26, 27, 28, 29, 30, 31, 32, 33, 34, 35, 36, 37, 38, 39, 40, 41, 42], [42])])
def morphology_plane_transform_52.B13 : List Nat := [0, 0, 0, 4, 12, 30, 0, 126, 255, 511, 0, 0, 0, 4096, 12288, 30720, 0, 129024, 261120, 523264, 1048575, 0, 0, 0, 8388608, 25165824, 62914560, 0, 264241152, 534773760, 1071644672, 2147483647, 0, 0, 0, 17179869184, 51539607552, 128849018880, 0, 541165879296, 1095216660480, 2194728288256, 4398046511103, 8796093022207]
theorem morphology_plane_transform_52.tab13 : rtab .any (opsOf Try.f37 13) = morphology_plane_transform_52.T13 := by kernel_rfl
theorem morphology_plane_transform_52.bits13 : waitsOk morphology_plane_transform_52.T13.2 morphology_plane_transform_52.B13 = true := by kernel_rfl
def morphology_plane_transform_52.T14 : Bool × List (List Nat × List Nat) := (true, [([], []), ([0], [0]), ([], []), ([], []), ([3], [3]), ([2, 4], [2, 4]), ([], []), ([5, 6], [5, 6]), ([], []), ([], []), ([], []), ([8, 9, 10], [8, 9, 10]), ([1, 7, 0, 1, 2, 3, 4, 5, 6, 7, 8, 9, 10, 11], [1, 7]), ([12, 11, 11, 0, 1, 2, 3, 4, 5, 6, 7, 8, 9, 10, 11], [11, 12])])
def morphology_plane_transform_52.B14 : List Nat := [0, 1, 0, 0, 8, 28, 0, 124, 0, 0, 0, 1792, 4095, 8191]
theorem morphology_plane_transform_52.tab14 : rtab .any (opsOf Try.f37 14) = morphology_plane_transform_52.T14 := by kernel_rfl
theorem morphology_plane_transform_52.bits14 : waitsOk morphology_plane_transform_52.T14.2 morphology_plane_transform_52.B14 = true := by kernel_rfl
set_option maxHeartbeats 8000000 in
set_option maxRecDepth 100000 in
theorem morphology_plane_transform_52.calls (k : Nat) (a0_0 : Int) (a0_1 : Int) (a0_2 : Int) (a0_3 : Int) (A0_4 : Option Addr) (c0_4 : Nat) (l0_4 : List Bool) (a1 : Int) (a2 : Int)  (r1 : Int) (r2 : Int) (r3 : Int) (r4 : Int) (r5 : List Bool) (w : World) (hr0_4 : Kd.C Kd.bool w A0_4 l0_4.length l0_4) (hc0_4 : l0_4.length ≤ c0_4) (h : morphology_plane_transform_52.f k a0_0 a0_1 a0_2 a0_3 l0_4 a1 a2 = some (r1, r2, r3, r4, r5)) :
  Calls Try.prog 37 #[.agg #[.int .i64 a0_0, .int .i64 a0_1, .int .i64 a0_2, .int .i64 a0_3, .slice A0_4 l0_4.length c0_4], .int .i64 a1, .int .i64 a2, .func (.func 52) #[] #[]] w fun e w' => ∃ v4_ : Value, e = .returned (.agg #[.int .i64 r1, .int .i64 r2, .int .i64 r3, .int .i64 r4, v4_]) ∧ Kd.R Kd.bool 4 w' w.heap.size (fun _ => True) v4_ r5 ∧ Below w.heap.size w w' := by
 have hu50 := Try.underlying50
 have HR0_4 := Aside0.mk hr0_4
 have HC0_4 := Aside0.mk hc0_4
 clear hr0_4 hc0_4
 have HB := Aside0.mk (Below.refl w.heap.size w)
 have H : ((morphology_plane_sums.f k a0_0 a0_1 a0_2 a0_3 l0_4).bind fun t166 => (if 0 ≤ (l0_4.length : Int) then (if ((l0_4.length : Int) : Int).toNat ≤ 281474976710656 then (morphology_plane_transform_52.l0 k a1 a2 t166 (wrap64 ((wrap64 ((wrap64 (2 * a1)) + 1)) * (wrap64 ((wrap64 (2 * a2)) + 1)))) a0_1 0 a0_0 a0_1 a0_2 a0_3 l0_4 a0_0 a0_1 a0_2 a0_3 (List.replicate ((l0_4.length : Int) : Int).toNat false)) else (none)) else (none))) = some (r1, r2, r3, r4, r5) := h
 clear h
 replace H := Option.bind_eq_some_iff.mp H
 obtain ⟨t166, A50, H⟩ := H
 replace H : (if 0 ≤ (l0_4.length : Int) then (if ((l0_4.length : Int) : Int).toNat ≤ 281474976710656 then (morphology_plane_transform_52.l0 k a1 a2 t166 (wrap64 ((wrap64 ((wrap64 (2 * a1)) + 1)) * (wrap64 ((wrap64 (2 * a2)) + 1)))) a0_1 0 a0_0 a0_1 a0_2 a0_3 l0_4 a0_0 a0_1 a0_2 a0_3 (List.replicate ((l0_4.length : Int) : Int).toNat false)) else (none)) else (none)) = some (r1, r2, r3, r4, r5) := H
 have A5 := Aside0.mk A50
 clear A50
 by_cases c6 : 0 ≤ (l0_4.length : Int)
 ·rw [if_pos c6] at H
  have c6b0 := eq_true c6
  have c6b1 : decide (0 ≤ (l0_4.length : Int)) = true := decide_eq_true c6
  clear c6
  by_cases c7 : ((l0_4.length : Int) : Int).toNat ≤ 281474976710656
  ·rw [if_pos c7] at H
   have c7b0 := eq_true c7
   have c7b1 : decide (((l0_4.length : Int) : Int).toNat ≤ 281474976710656) = true := decide_eq_true c7
   clear c7
   obtain ⟨y170, hy170⟩ : ∃ y_ : List Bool, y_ = (List.replicate ((l0_4.length : Int) : Int).toNat false) := ⟨_, rfl⟩
   replace H : (morphology_plane_transform_52.l0 k a1 a2 t166 (wrap64 ((wrap64 ((wrap64 (2 * a1)) + 1)) * (wrap64 ((wrap64 (2 * a2)) + 1)))) a0_1 0 a0_0 a0_1 a0_2 a0_3 l0_4 a0_0 a0_1 a0_2 a0_3 y170) = some (r1, r2, r3, r4, r5) := by first | (rw [hy170]; with_reducible exact H) | (have H2_ := (Option.bind_some _ _).symm.trans H; rw [hy170]; with_reducible exact H2_) | (have H2_ := (Option.bind_some _ _).symm.trans H; with_reducible exact H2_) | with_reducible exact H | (rw [hy170]; exact H) | exact H
   have Ny170 := Aside0.mk hy170
   clear hy170
   have H' := Aside0.mk H
   clear H
   go_enter Try.func37, Try.ntmps37
   go_wp2_with (first | ((with_reducible refine gate_dst (N := 4) rfl ?_); refine box_event ?hg (N := 4) ?hd (cs := #[.int .i64 a0_0, .int .i64 a0_1, .int .i64 a0_2, .int .i64 a0_3, .slice A0_4 l0_4.length c0_4]) (t := 50) ?hr ?_; (case hd => rfl); (case hg => rfl); (case hr => first | (go_simp; done) | (go_simp; rfl)); intro gb164 hg w8 hbox hb; have n0_ := Aside0.mk (below_step (hb0 HB) hb); have n1_ := Aside0.mk (hbox); have n2_ := Aside0.mk ((by rw [hg]; exact (below_size (hb0 HB)) : w.heap.size ≤ gb164)); have n3_ := Aside0.mk ((by rw [hg]; exact (below_size (hb0 HB)) : w.heap.size ≤ gb164)); clear HB; have HB := n0_; have BK164 := n1_; have GW164 := n2_; have GE164 := n3_; clear n0_ n1_ n2_ n3_; clear hb hbox hg) | ((with_reducible refine gate_dst (N := 8) rfl ?_); refine box_event ?hg (N := 8) ?hd (cs := #[.int .i64 0, .int .i64 0, .int .i64 0, .int .i64 0, .slice none 0 0]) (t := 50) ?hr ?_; (case hd => rfl); (case hg => rfl); (case hr => first | (go_simp; done) | (go_simp; rfl)); intro gb165 hg w9 hbox hb; have n0_ := Aside0.mk (blk_below (bkx BK164) hb); have n1_ := Aside0.mk (below_step (hb1 HB GE164) hb); have n2_ := Aside0.mk (hbox); have n3_ := Aside0.mk ((by rw [hg]; exact (below_size (hb1 HB GE164)) : w.heap.size ≤ gb165)); have n4_ := Aside0.mk ((by rw [hg]; exact (below_size (hb1 HB GE164)) : w.heap.size ≤ gb165)); have n5_ := Aside0.mk (nel hg BK164 : gb164 ≠ gb165); have n6_ := Aside0.mk (neg hg BK164 : gb165 ≠ gb164); clear BK164; clear HB; have BK164 := n0_; have HB := n1_; have BK165 := n2_; have GW165 := n3_; have GE165 := n4_; have NB164_165 := n5_; have NB165_164 := n6_; clear n0_ n1_ n2_ n3_ n4_ n5_ n6_; clear hb hbox hg; have hnb10 := NB164_165.out; have hnc10 := NB165_164.out; have hcz11_0 : w9.cell? ⟨gb164, 0, none⟩ = some (.int .i64 a0_0) := (blk_cell BK164.out 0).trans rfl; have hcz11_1 : w9.cell? ⟨gb164, 1, none⟩ = some (.int .i64 a0_1) := (blk_cell BK164.out 1).trans rfl; have hcz11_2 : w9.cell? ⟨gb164, 2, none⟩ = some (.int .i64 a0_2) := (blk_cell BK164.out 2).trans rfl; have hcz11_3 : w9.cell? ⟨gb164, 3, none⟩ = some (.int .i64 a0_3) := (blk_cell BK164.out 3).trans rfl; have hcz11_4 : w9.cell? ⟨gb164, 4, none⟩ = some (.slice A0_4 l0_4.length c0_4) := (blk_cell BK164.out 4).trans rfl; have hfz11_0 := blk_frozen BK164.out 0; have hfz11_1 := blk_frozen BK164.out 1; have hfz11_2 := blk_frozen BK164.out 2; have hfz11_3 := blk_frozen BK164.out 3; have hfz11_4 := blk_frozen BK164.out 4) | ((with_reducible refine gate_callee (f := 51) rfl ?_); refine goesL_ (some 20) rfl rfl Try.func51 (by kernel_rfl) rfl #[.agg #[.int .i64 a0_0, .int .i64 a0_1, .int .i64 a0_2, .int .i64 a0_3, .slice A0_4 l0_4.length c0_4]] rfl mapx ?_; (with_reducible refine (morphology_plane_sums.calls k a0_0 a0_1 a0_2 a0_3 _ _ l0_4 t166 _ ?side1 ?side2 A5.out).mono ?_); (case side1 => repeat (first | exact (Kd.C_below HR0_4.out HB.out) | (with_reducible refine Kd.C_alloc ?_ _) | (with_reducible refine Kd.C_drewN ?_ _) | (with_reducible refine Kd.C_drew ?_))); (case side2 => exact HC0_4.out); rintro e w12 ⟨v167, rfl, ho0, hb⟩; refine ⟨_, rfl, ?_⟩; have n0_ := Aside0.mk (Kd.R_lower ho0 (below_size (hb2 HB GE164 GE165))); have n1_ := Aside0.mk (blk_below (bkx BK164) hb); have n2_ := Aside0.mk (blk_below (bkx BK165) hb); have n3_ := Aside0.mk (below_step (hb2 HB GE164 GE165) hb); clear BK164; clear BK165; clear HB; have HO168 := n0_; have BK164 := n1_; have BK165 := n2_; have HB := n3_; clear n0_ n1_ n2_ n3_; (try clear hb); (try clear hb2); (try clear hk); (try clear hi); (try clear ho0); have hcz13_0 : w12.cell? ⟨gb164, 0, none⟩ = some (.int .i64 a0_0) := (blk_cell BK164.out 0).trans rfl; have hcz13_1 : w12.cell? ⟨gb164, 1, none⟩ = some (.int .i64 a0_1) := (blk_cell BK164.out 1).trans rfl; have hcz13_2 : w12.cell? ⟨gb164, 2, none⟩ = some (.int .i64 a0_2) := (blk_cell BK164.out 2).trans rfl; have hcz13_3 : w12.cell? ⟨gb164, 3, none⟩ = some (.int .i64 a0_3) := (blk_cell BK164.out 3).trans rfl; have hcz13_4 : w12.cell? ⟨gb164, 4, none⟩ = some (.slice A0_4 l0_4.length c0_4) := (blk_cell BK164.out 4).trans rfl; have hfz13_0 := blk_frozen BK164.out 0; have hfz13_1 := blk_frozen BK164.out 1; have hfz13_2 := blk_frozen BK164.out 2; have hfz13_3 := blk_frozen BK164.out 3; have hfz13_4 := blk_frozen BK164.out 4) | ((with_reducible refine gate_dst (N := 10) rfl ?_); refine box_event ?hg (N := 10) ?hd (cs := #[.int .i64 0, .int .i64 0, .int .i64 0, .int .i64 0, .slice none 0 0]) (t := 50) ?hr ?_; (case hd => rfl); (case hg => rfl); (case hr => first | (go_simp; done) | (go_simp; rfl)); intro gb169 hg w14 hbox hb; have n0_ := Aside0.mk (Kd.R_below (rkx HO168) hb); have n1_ := Aside0.mk (blk_below (bkx BK164) hb); have n2_ := Aside0.mk (blk_below (bkx BK165) hb); have n3_ := Aside0.mk (below_step (hb2 HB GE164 GE165) hb); have n4_ := Aside0.mk (hbox); have n5_ := Aside0.mk ((by rw [hg]; exact (below_size (hb2 HB GE164 GE165)) : w.heap.size ≤ gb169)); have n6_ := Aside0.mk ((by rw [hg]; exact (below_size (hb2 HB GE164 GE165)) : w.heap.size ≤ gb169)); have n7_ := Aside0.mk (nel hg BK164 : gb164 ≠ gb169); have n8_ := Aside0.mk (neg hg BK164 : gb169 ≠ gb164); have n9_ := Aside0.mk (nel hg BK165 : gb165 ≠ gb169); have n10_ := Aside0.mk (neg hg BK165 : gb169 ≠ gb165); clear HO168; clear BK164; clear BK165; clear HB; have HO168 := n0_; have BK164 := n1_; have BK165 := n2_; have HB := n3_; have BK169 := n4_; have GW169 := n5_; have GE169 := n6_; have NB164_169 := n7_; have NB169_164 := n8_; have NB165_169 := n9_; have NB169_165 := n10_; clear n0_ n1_ n2_ n3_ n4_ n5_ n6_ n7_ n8_ n9_ n10_; clear hb hbox hg; have hnb15 := NB169_164.out; have hnc15 := NB164_169.out; have hnb16 := NB169_165.out; have hnc16 := NB165_169.out; have hcz17_0 : w14.cell? ⟨gb169, 0, none⟩ = some (.int .i64 0) := (blk_cell BK169.out 0).trans rfl; have hcz17_1 : w14.cell? ⟨gb169, 1, none⟩ = some (.int .i64 0) := (blk_cell BK169.out 1).trans rfl; have hcz17_2 : w14.cell? ⟨gb169, 2, none⟩ = some (.int .i64 0) := (blk_cell BK169.out 2).trans rfl; have hcz17_3 : w14.cell? ⟨gb169, 3, none⟩ = some (.int .i64 0) := (blk_cell BK169.out 3).trans rfl; have hcz17_4 : w14.cell? ⟨gb169, 4, none⟩ = some (.slice none 0 0) := (blk_cell BK169.out 4).trans rfl; have hfz17_0 := blk_frozen BK169.out 0; have hfz17_1 := blk_frozen BK169.out 1; have hfz17_2 := blk_frozen BK169.out 2; have hfz17_3 := blk_frozen BK169.out 3; have hfz17_4 := blk_frozen BK169.out 4; have hcz18_0 : w14.cell? ⟨gb164, 0, none⟩ = some (.int .i64 a0_0) := (blk_cell BK164.out 0).trans rfl; have hcz18_1 : w14.cell? ⟨gb164, 1, none⟩ = some (.int .i64 a0_1) := (blk_cell BK164.out 1).trans rfl; have hcz18_2 : w14.cell? ⟨gb164, 2, none⟩ = some (.int .i64 a0_2) := (blk_cell BK164.out 2).trans rfl; have hcz18_3 : w14.cell? ⟨gb164, 3, none⟩ = some (.int .i64 a0_3) := (blk_cell BK164.out 3).trans rfl; have hcz18_4 : w14.cell? ⟨gb164, 4, none⟩ = some (.slice A0_4 l0_4.length c0_4) := (blk_cell BK164.out 4).trans rfl; have hfz18_0 := blk_frozen BK164.out 0; have hfz18_1 := blk_frozen BK164.out 1; have hfz18_2 := blk_frozen BK164.out 2; have hfz18_3 := blk_frozen BK164.out 3; have hfz18_4 := blk_frozen BK164.out 4) | ((with_reducible refine gate_dst (N := 25) rfl ?_); refine Kd.R_make Kd.bool _ 4 rfl (N := 25) rfl 22 _ _ rfl (l0_4.length : Int) rfl rfl Try.underlying22 (.bool false) 1 info4 rfl (by decide) (by omega) false (ok := fun _ => True) (okp := fun _ => True) rfl (fun _ hk => hk) trivial (of_decide_eq_true (by first | (with_reducible assumption) | assumption)) (Nat.le_trans (Nat.mul_le_mul_right _ (of_decide_eq_true (by first | (with_reducible assumption) | assumption) : (l0_4.length : Int).toNat ≤ 281474976710656)) (by omega)) (Below.refl _ _) (Nat.le_refl _) ?_; intro v171 w19 ho20 hb hg_ hnew_; clear hg_ hnew_; (first | rw [← Ny170.out] at ho20 | (simp only [Int.reduceToNat] at ho20; rw [← Ny170.out] at ho20)); have n0_ := Aside0.mk (Kd.R_below (by refine rkt ?_; exact (Kd.R_mono (Kd.R_far (p := ⟨gb169, 4, none⟩) (Kd.R_far (p := ⟨gb169, 3, none⟩) (Kd.R_far (p := ⟨gb169, 2, none⟩) (Kd.R_far (p := ⟨gb169, 1, none⟩) (Kd.R_far (p := ⟨gb169, 0, none⟩) (Kd.R_types HO168.out BK169.out (by decide)) (fun _ hk => hk.2) (.int .i64 a0_0)) (fun _ hk => hk.2) (.int .i64 a0_1)) (fun _ hk => hk.2) (.int .i64 a0_2)) (fun _ hk => hk.2) (.int .i64 a0_3)) (fun _ hk => hk.2) (.slice A0_4 l0_4.length c0_4)) (fun _ h_ => h_.1))) hb); have n1_ := Aside0.mk (Kd.R_lower ho20 (below_size (hb3 HB GE164 GE165 GE169))); have n2_ := Aside0.mk (blk_below (g := gb164) (o := .cells #[.int .i64 a0_0, .int .i64 a0_1, .int .i64 a0_2, .int .i64 a0_3, .slice A0_4 l0_4.length c0_4] 50 (0, 0)) (bky BK164 NB164_169) hb); have n3_ := Aside0.mk (blk_below (g := gb165) (o := .cells #[.int .i64 0, .int .i64 0, .int .i64 0, .int .i64 0, .slice none 0 0] 50 (0, 0)) (bky BK165 NB165_169) hb); have n4_ := Aside0.mk (blk_below (g := gb169) (o := .cells #[.int .i64 a0_0, .int .i64 a0_1, .int .i64 a0_2, .int .i64 a0_3, .slice A0_4 l0_4.length c0_4] 50 (0, 0)) (by refine bkt ?_; refine blk_put (cs := #[.int .i64 a0_0, .int .i64 a0_1, .int .i64 a0_2, .int .i64 a0_3, .slice none 0 0]) ?_ 4 _ rfl; refine bkt ?_; refine blk_put (cs := #[.int .i64 a0_0, .int .i64 a0_1, .int .i64 a0_2, .int .i64 0, .slice none 0 0]) ?_ 3 _ rfl; refine bkt ?_; refine blk_put (cs := #[.int .i64 a0_0, .int .i64 a0_1, .int .i64 0, .int .i64 0, .slice none 0 0]) ?_ 2 _ rfl; refine bkt ?_; refine blk_put (cs := #[.int .i64 a0_0, .int .i64 0, .int .i64 0, .int .i64 0, .slice none 0 0]) ?_ 1 _ rfl; refine bkt ?_; refine blk_put (cs := #[.int .i64 0, .int .i64 0, .int .i64 0, .int .i64 0, .slice none 0 0]) ?_ 0 _ rfl; refine bkt ?_; exact BK169.out) hb); have n5_ := Aside0.mk (below_step (hb3 HB GE164 GE165 GE169) hb); clear HO168; clear BK164; clear BK165; clear BK169; clear HB; have HO168 := n0_; have HO172 := n1_; have BK164 := n2_; have BK165 := n3_; have BK169 := n4_; have HB := n5_; clear n0_ n1_ n2_ n3_ n4_ n5_; clear hb ho20; obtain ⟨Ao21, co21, eo21⟩ := Kd.R_slice HO172.out; subst eo21; have hcz22_0 : w19.cell? ⟨gb169, 0, none⟩ = some (.int .i64 a0_0) := (blk_cell BK169.out 0).trans rfl; have hcz22_1 : w19.cell? ⟨gb169, 1, none⟩ = some (.int .i64 a0_1) := (blk_cell BK169.out 1).trans rfl; have hcz22_2 : w19.cell? ⟨gb169, 2, none⟩ = some (.int .i64 a0_2) := (blk_cell BK169.out 2).trans rfl; have hcz22_3 : w19.cell? ⟨gb169, 3, none⟩ = some (.int .i64 a0_3) := (blk_cell BK169.out 3).trans rfl; have hcz22_4 : w19.cell? ⟨gb169, 4, none⟩ = some (.slice A0_4 l0_4.length c0_4) := (blk_cell BK169.out 4).trans rfl; have hfz22_0 := blk_frozen BK169.out 0; have hfz22_1 := blk_frozen BK169.out 1; have hfz22_2 := blk_frozen BK169.out 2; have hfz22_3 := blk_frozen BK169.out 3; have hfz22_4 := blk_frozen BK169.out 4; have hcz23_0 : w19.cell? ⟨gb164, 0, none⟩ = some (.int .i64 a0_0) := (blk_cell BK164.out 0).trans rfl; have hcz23_1 : w19.cell? ⟨gb164, 1, none⟩ = some (.int .i64 a0_1) := (blk_cell BK164.out 1).trans rfl; have hcz23_2 : w19.cell? ⟨gb164, 2, none⟩ = some (.int .i64 a0_2) := (blk_cell BK164.out 2).trans rfl; have hcz23_3 : w19.cell? ⟨gb164, 3, none⟩ = some (.int .i64 a0_3) := (blk_cell BK164.out 3).trans rfl; have hcz23_4 : w19.cell? ⟨gb164, 4, none⟩ = some (.slice A0_4 l0_4.length c0_4) := (blk_cell BK164.out 4).trans rfl; have hfz23_0 := blk_frozen BK164.out 0; have hfz23_1 := blk_frozen BK164.out 1; have hfz23_2 := blk_frozen BK164.out 2; have hfz23_3 := blk_frozen BK164.out 3; have hfz23_4 := blk_frozen BK164.out 4))
   go_loopg [36] k (fun kq v36 w' => ∃ (x36_1 : Int) (x170004_1 : List Bool) (u170004 : Value), v36 = .int .i64 x36_1 ∧ Aside0 (morphology_plane_transform_52.l0 kq a1 a2 t166 (wrap64 ((wrap64 ((wrap64 (2 * a1)) + 1)) * (wrap64 ((wrap64 (2 * a2)) + 1)))) a0_1 x36_1 a0_0 a0_1 a0_2 a0_3 l0_4 a0_0 a0_1 a0_2 a0_3 x170004_1 = some (r1, r2, r3, r4, r5)) ∧ Aside0 (kq ≤ k) ∧ Aside0 (Kd.R (Kd.int .i64) 3 w' w.heap.size (fun _ => True) v167 t166) ∧ Aside0 (Kd.R Kd.bool 4 w' w.heap.size (fun _ => True) u170004 x170004_1) ∧ Aside0 (w'.heap[gb164]? = some (.cells #[.int .i64 a0_0, .int .i64 a0_1, .int .i64 a0_2, .int .i64 a0_3, (.slice A0_4 l0_4.length c0_4)] 50 (0, 0))) ∧ Aside0 (w'.heap[gb165]? = some (.cells #[.int .i64 0, .int .i64 0, .int .i64 0, .int .i64 0, (.slice none 0 0)] 50 (0, 0))) ∧ Aside0 (w'.heap[gb169]? = some (.cells #[.int .i64 a0_0, .int .i64 a0_1, .int .i64 a0_2, .int .i64 a0_3, u170004] 50 (0, 0))) ∧ Aside0 (Below w.heap.size w w'))
   case atStart => exact ⟨(0), (y170), (.slice Ao21 y170.length co21), (by first | rfl | (simp; done) | (simp [*]; done)), H', ⟨Nat.le_refl _⟩, ⟨by refine rkt ?_; exact Kd.R_mono (Kd.R_far (p := ⟨gb169, 4, none⟩) (Kd.R_types HO168.out BK169.out (by decide)) (fun _ hk => hk.2) (.slice Ao21 y170.length co21)) (fun _ hk => trivial)⟩, ⟨by refine rkt ?_; exact Kd.R_mono (Kd.R_far (p := ⟨gb169, 4, none⟩) (Kd.R_types HO172.out BK169.out (by decide)) (fun _ hk => hk.2) (.slice Ao21 y170.length co21)) (fun _ hk => trivial)⟩, ⟨bky BK164 NB164_169⟩, ⟨bky BK165 NB165_169⟩, ⟨by refine bkt ?_; refine blk_put (cs := #[.int .i64 a0_0, .int .i64 a0_1, .int .i64 a0_2, .int .i64 a0_3, .slice A0_4 l0_4.length c0_4]) ?_ 4 _ rfl; refine bkt ?_; exact BK169.out⟩, ⟨hb3 HB GE164 GE165 GE169⟩⟩
   case round =>
    clear H'
    try clear c1
    try clear p2
    try clear c3
    try clear c5
    try clear c6
    try clear c6b0
    try clear c6b1
    try clear p6
    try clear c7
    try clear c7b0
    try clear c7b1
    try clear c10
    try clear c15
    try clear c16
    try clear hcz11_0
    try clear hcz11_1
    try clear hcz11_2
    try clear hcz11_3
    try clear hcz11_4
    try clear hcz13_0
    try clear hcz13_1
    try clear hcz13_2
    try clear hcz13_3
    try clear hcz13_4
    try clear hcz17_0
    try clear hcz17_1
    try clear hcz17_2
    try clear hcz17_3
    try clear hcz17_4
    try clear hcz18_0
    try clear hcz18_1
    try clear hcz18_2
    try clear hcz18_3
    try clear hcz18_4
    try clear hcz22_0
    try clear hcz22_1
    try clear hcz22_2
    try clear hcz22_3
    try clear hcz22_4
    try clear hcz23_0
    try clear hcz23_1
    try clear hcz23_2
    try clear hcz23_3
    try clear hcz23_4
    try clear hfz11_0
    try clear hfz11_1
    try clear hfz11_2
    try clear hfz11_3
    try clear hfz11_4
    try clear hfz13_0
    try clear hfz13_1
    try clear hfz13_2
    try clear hfz13_3
    try clear hfz13_4
    try clear hfz17_0
    try clear hfz17_1
    try clear hfz17_2
    try clear hfz17_3
    try clear hfz17_4
    try clear hfz18_0
    try clear hfz18_1
    try clear hfz18_2
    try clear hfz18_3
    try clear hfz18_4
    try clear hfz22_0
    try clear hfz22_1
    try clear hfz22_2
    try clear hfz22_3
    try clear hfz22_4
    try clear hfz23_0
    try clear hfz23_1
    try clear hfz23_2
    try clear hfz23_3
    try clear hfz23_4
    obtain ⟨x36_1, x170004_1, u170004, rfl, HA, HK1, HO_9, HO_170004, BK164, BK165, BK169, HB⟩ := hrel
    cases gk with
    | zero => exact absurd HA.out (by simp [morphology_plane_transform_52.l0])
    | succ k1 =>
     have H := HA.out
     clear HA
     simp only [morphology_plane_transform_52.l0] at H
     by_cases c24 : x36_1 < a0_1
     ·rw [if_pos c24] at H
      have c24b0 : decide (x36_1 < a0_1) = true := decide_eq_true c24
      clear c24
      obtain ⟨ji25, hji25⟩ : ∃ j_ : Int, (mx 0 (wrap64 (x36_1 - a2))) = j_ := ⟨_, rfl⟩
      replace H : (morphology_plane_transform_52.l1 k1 a1 a2 t166 (wrap64 ((wrap64 ((wrap64 (2 * a1)) + 1)) * (wrap64 ((wrap64 (2 * a2)) + 1)))) x36_1 ji25 (mn a0_1 (wrap64 ((wrap64 (x36_1 + a2)) + 1))) a0_1 x36_1 a0_0 0 a0_0 a0_1 a0_2 a0_3 l0_4 a0_0 a0_1 a0_2 a0_3 x170004_1) = some (r1, r2, r3, r4, r5) := by first | (rw [hji25] at H; exact H) | (simp only [hji25] at H ⊢; exact H)
      have hji25_ : (if 0 < (wrap64 (x36_1 - a2)) then (wrap64 (x36_1 - a2)) else 0) = ji25 := hji25
      obtain ⟨ji26, hji26⟩ : ∃ j_ : Int, (mn a0_1 (wrap64 ((wrap64 (x36_1 + a2)) + 1))) = j_ := ⟨_, rfl⟩
      replace H : (morphology_plane_transform_52.l1 k1 a1 a2 t166 (wrap64 ((wrap64 ((wrap64 (2 * a1)) + 1)) * (wrap64 ((wrap64 (2 * a2)) + 1)))) x36_1 ji25 ji26 a0_1 x36_1 a0_0 0 a0_0 a0_1 a0_2 a0_3 l0_4 a0_0 a0_1 a0_2 a0_3 x170004_1) = some (r1, r2, r3, r4, r5) := by first | (rw [hji26] at H; exact H) | (simp only [hji26] at H ⊢; exact H)
      have hji26_ : (if (wrap64 ((wrap64 (x36_1 + a2)) + 1)) < a0_1 then (wrap64 ((wrap64 (x36_1 + a2)) + 1)) else a0_1) = ji26 := hji26
      have H' := Aside0.mk H
      clear H
      try go_wp2
      have n0_ := Aside0.mk (Kd.R_drew HO_9.out)
      have n1_ := Aside0.mk (Kd.R_drew HO_170004.out)
      have n2_ := Aside0.mk (blk_drew BK164.out)
      have n3_ := Aside0.mk (blk_drew BK165.out)
      have n4_ := Aside0.mk (blk_drew BK169.out)
      have n5_ := Aside0.mk (below_drew1 HB.out)
      clear HO_9
      clear HO_170004
      clear BK164
      clear BK165
      clear BK169
      clear HB
      have HO_9 := n0_
      have HO_170004 := n1_
      have BK164 := n2_
      have BK165 := n3_
      have BK169 := n4_
      have HB := n5_
      clear n0_ n1_ n2_ n3_ n4_ n5_
      refine start_ (n := 13) (S := fun w' => w'.cell? ⟨gb164, 0, none⟩ = some (.int .i64 a0_0) ∧ w'.cell? ⟨gb164, 1, none⟩ = some (.int .i64 a0_1) ∧ w'.cell? ⟨gb164, 2, none⟩ = some (.int .i64 a0_2) ∧ w'.cell? ⟨gb164, 3, none⟩ = some (.int .i64 a0_3) ∧ w'.cell? ⟨gb164, 4, none⟩ = some (.slice A0_4 l0_4.length c0_4)) (ds := []) (bA 13 0) (by kernel_rfl) rfl rfl ⟨(blk_cell BK164.out 0).trans rfl, (blk_cell BK164.out 1).trans rfl, (blk_cell BK164.out 2).trans rfl, (blk_cell BK164.out 3).trans rfl, (blk_cell BK164.out 4).trans rfl⟩ (fun hHeld => ?_); refine with_tabW morphology_plane_transform_52.tab8 morphology_plane_transform_52.bits8 (fun HT_ HW_ => ?_)
      generalize wr.drew = w27 at HO_9 HO_170004 BK164 BK165 BK169 HB hHeld ⊢
      refine pt HT_ 0 39 ?_
      refine pt HT_ 1 40 ?_
      refine pt HT_ 2 41 ?_
      refine pt HT_ 3 42 ?_
      refine pt HT_ 4 43 ?_
      refine pt HT_ 6 45 ?_
      refine pt HT_ 7 46 ?_
      refine pt HT_ 8 47 ?_
      refine pt HT_ 9 48 ?_
      refine pt HT_ 11 13 ?_
      refine tk HT_ HW_ hHeld 5 44 ?_
      refine pt HT_ 10 49 ?_
      refine pt HT_ 12 14 ?_
      refine done_ (done_of HT_.out (by kernel_rfl)) ?_
      have hnb28 := NB164_165.out
      have hnc28 := NB165_164.out
      have hnb29 := NB164_169.out
      have hnc29 := NB169_164.out
      have hcz30_0 : w27.cell? ⟨gb164, 0, none⟩ = some (.int .i64 a0_0) := (blk_cell BK164.out 0).trans rfl
      have hcz30_1 : w27.cell? ⟨gb164, 1, none⟩ = some (.int .i64 a0_1) := (blk_cell BK164.out 1).trans rfl
      have hcz30_2 : w27.cell? ⟨gb164, 2, none⟩ = some (.int .i64 a0_2) := (blk_cell BK164.out 2).trans rfl
      have hcz30_3 : w27.cell? ⟨gb164, 3, none⟩ = some (.int .i64 a0_3) := (blk_cell BK164.out 3).trans rfl
      have hcz30_4 : w27.cell? ⟨gb164, 4, none⟩ = some (.slice A0_4 l0_4.length c0_4) := (blk_cell BK164.out 4).trans rfl
      have hfz30_0 := blk_frozen BK164.out 0
      have hfz30_1 := blk_frozen BK164.out 1
      have hfz30_2 := blk_frozen BK164.out 2
      have hfz30_3 := blk_frozen BK164.out 3
      have hfz30_4 := blk_frozen BK164.out 4
      try go_wp2
      go_loopg [52] k1 (fun kq v52 w' => ∃ (x52_2 : Int) (x170004_2 : List Bool) (u170004 : Value), v52 = .int .i64 x52_2 ∧ Aside0 (morphology_plane_transform_52.l1 kq a1 a2 t166 (wrap64 ((wrap64 ((wrap64 (2 * a1)) + 1)) * (wrap64 ((wrap64 (2 * a2)) + 1)))) x36_1 ji25 ji26 a0_1 x36_1 a0_0 x52_2 a0_0 a0_1 a0_2 a0_3 l0_4 a0_0 a0_1 a0_2 a0_3 x170004_2 = some (r1, r2, r3, r4, r5)) ∧ Aside0 (kq ≤ k1) ∧ Aside0 (Kd.R (Kd.int .i64) 3 w' w.heap.size (fun _ => True) v167 t166) ∧ Aside0 (Kd.R Kd.bool 4 w' w.heap.size (fun _ => True) u170004 x170004_2) ∧ Aside0 (w'.heap[gb164]? = some (.cells #[.int .i64 a0_0, .int .i64 a0_1, .int .i64 a0_2, .int .i64 a0_3, (.slice A0_4 l0_4.length c0_4)] 50 (0, 0))) ∧ Aside0 (w'.heap[gb165]? = some (.cells #[.int .i64 0, .int .i64 0, .int .i64 0, .int .i64 0, (.slice none 0 0)] 50 (0, 0))) ∧ Aside0 (w'.heap[gb169]? = some (.cells #[.int .i64 a0_0, .int .i64 a0_1, .int .i64 a0_2, .int .i64 a0_3, u170004] 50 (0, 0))) ∧ Aside0 (Below w.heap.size w w'))
      case atStart => exact ⟨(0), (x170004_1), (u170004), (by first | rfl | (simp; done) | (simp [*]; done)), H', ⟨Nat.le_refl _⟩, ⟨rkx HO_9⟩, ⟨rkx HO_170004⟩, ⟨bkx BK164⟩, ⟨bkx BK165⟩, ⟨bkx BK169⟩, ⟨hb3 HB GE164 GE165 GE169⟩⟩
      case round =>
       clear H'
       try clear c1
       try clear c2
       try clear p2
       try clear c3
       try clear c5
       try clear c6
       try clear c6b0
       try clear c6b1
       try clear p6
       try clear c7
       try clear c7b0
       try clear c7b1
       try clear c10
       try clear c15
       try clear c16
       try clear c24
       try clear c24b0
       try clear c28
       try clear c29
       try clear hcz11_0
       try clear hcz11_1
       try clear hcz11_2
       try clear hcz11_3
       try clear hcz11_4
       try clear hcz13_0
       try clear hcz13_1
       try clear hcz13_2
       try clear hcz13_3
       try clear hcz13_4
       try clear hcz17_0
       try clear hcz17_1
       try clear hcz17_2
       try clear hcz17_3
       try clear hcz17_4
       try clear hcz18_0
       try clear hcz18_1
       try clear hcz18_2
       try clear hcz18_3
       try clear hcz18_4
       try clear hcz22_0
       try clear hcz22_1
       try clear hcz22_2
       try clear hcz22_3
       try clear hcz22_4
       try clear hcz23_0
       try clear hcz23_1
       try clear hcz23_2
       try clear hcz23_3
       try clear hcz23_4
       try clear hcz30_0
       try clear hcz30_1
       try clear hcz30_2
       try clear hcz30_3
       try clear hcz30_4
       try clear hfz11_0
       try clear hfz11_1
       try clear hfz11_2
       try clear hfz11_3
       try clear hfz11_4
       try clear hfz13_0
       try clear hfz13_1
       try clear hfz13_2
       try clear hfz13_3
       try clear hfz13_4
       try clear hfz17_0
       try clear hfz17_1
       try clear hfz17_2
       try clear hfz17_3
       try clear hfz17_4
       try clear hfz18_0
       try clear hfz18_1
       try clear hfz18_2
       try clear hfz18_3
       try clear hfz18_4
       try clear hfz22_0
       try clear hfz22_1
       try clear hfz22_2
       try clear hfz22_3
       try clear hfz22_4
       try clear hfz23_0
       try clear hfz23_1
       try clear hfz23_2
       try clear hfz23_3
       try clear hfz23_4
       try clear hfz30_0
       try clear hfz30_1
       try clear hfz30_2
       try clear hfz30_3
       try clear hfz30_4
       try clear p2
       try clear p6
       obtain ⟨x52_2, x170004_2, u170004, rfl, HA, HK2, HO_9, HO_170004, BK164, BK165, BK169, HB⟩ := hrel
       cases gk with
       | zero => exact absurd HA.out (by simp [morphology_plane_transform_52.l1])
       | succ k2 =>
        have H := HA.out
        clear HA
        simp only [morphology_plane_transform_52.l1] at H
        by_cases c31 : x52_2 < a0_0
        ·rw [if_pos c31] at H
         have c31b0 : decide (x52_2 < a0_0) = true := decide_eq_true c31
         clear c31
         obtain ⟨ji32, hji32⟩ : ∃ j_ : Int, (mx 0 (wrap64 (x52_2 - a1))) = j_ := ⟨_, rfl⟩
         replace H : (if 0 ≤ (wrap64 ((wrap64 (ji26 * (wrap64 (a0_0 + 1)))) + (mn a0_0 (wrap64 ((wrap64 (x52_2 + a1)) + 1))))) then (if (wrap64 ((wrap64 (ji26 * (wrap64 (a0_0 + 1)))) + (mn a0_0 (wrap64 ((wrap64 (x52_2 + a1)) + 1))))) < (t166.length : Int) then (if 0 ≤ (wrap64 ((wrap64 (ji25 * (wrap64 (a0_0 + 1)))) + (mn a0_0 (wrap64 ((wrap64 (x52_2 + a1)) + 1))))) then (if (wrap64 ((wrap64 (ji25 * (wrap64 (a0_0 + 1)))) + (mn a0_0 (wrap64 ((wrap64 (x52_2 + a1)) + 1))))) < (t166.length : Int) then (if 0 ≤ (wrap64 ((wrap64 (ji26 * (wrap64 (a0_0 + 1)))) + (ji32))) then (if (wrap64 ((wrap64 (ji26 * (wrap64 (a0_0 + 1)))) + (ji32))) < (t166.length : Int) then (if 0 ≤ (wrap64 ((wrap64 (ji25 * (wrap64 (a0_0 + 1)))) + (ji32))) then (if (wrap64 ((wrap64 (ji25 * (wrap64 (a0_0 + 1)))) + (ji32))) < (t166.length : Int) then ((morphology_majority_1.f (wrap64 ((wrap64 ((wrap64 ((rd t166 (wrap64 ((wrap64 (ji26 * (wrap64 (a0_0 + 1)))) + (mn a0_0 (wrap64 ((wrap64 (x52_2 + a1)) + 1)))))) - (rd t166 (wrap64 ((wrap64 (ji25 * (wrap64 (a0_0 + 1)))) + (mn a0_0 (wrap64 ((wrap64 (x52_2 + a1)) + 1)))))))) - (rd t166 (wrap64 ((wrap64 (ji26 * (wrap64 (a0_0 + 1)))) + (ji32)))))) + (rd t166 (wrap64 ((wrap64 (ji25 * (wrap64 (a0_0 + 1)))) + (ji32)))))) (wrap64 ((wrap64 ((wrap64 (2 * a1)) + 1)) * (wrap64 ((wrap64 (2 * a2)) + 1))))).bind fun t177 => (if 0 ≤ (wrap64 ((wrap64 (x36_1 * a0_0)) + x52_2)) then (if (wrap64 ((wrap64 (x36_1 * a0_0)) + x52_2)) < (x170004_2.length : Int) then (morphology_plane_transform_52.l1 k2 a1 a2 t166 (wrap64 ((wrap64 ((wrap64 (2 * a1)) + 1)) * (wrap64 ((wrap64 (2 * a2)) + 1)))) x36_1 ji25 ji26 a0_1 x36_1 a0_0 (wrap64 (x52_2 + 1)) a0_0 a0_1 a0_2 a0_3 l0_4 a0_0 a0_1 a0_2 a0_3 (x170004_2.set ((wrap64 ((wrap64 (x36_1 * a0_0)) + x52_2)) : Int).toNat t177)) else (none)) else (none))) else (none)) else (none)) else (none)) else (none)) else (none)) else (none)) else (none)) else (none)) = some (r1, r2, r3, r4, r5) := by first | (rw [hji32] at H; exact H) | (simp only [hji32] at H ⊢; exact H)
         have hji32_ : (if 0 < (wrap64 (x52_2 - a1)) then (wrap64 (x52_2 - a1)) else 0) = ji32 := hji32
         obtain ⟨ji33, hji33⟩ : ∃ j_ : Int, (mn a0_0 (wrap64 ((wrap64 (x52_2 + a1)) + 1))) = j_ := ⟨_, rfl⟩
         replace H : (if 0 ≤ (wrap64 ((wrap64 (ji26 * (wrap64 (a0_0 + 1)))) + (ji33))) then (if (wrap64 ((wrap64 (ji26 * (wrap64 (a0_0 + 1)))) + (ji33))) < (t166.length : Int) then (if 0 ≤ (wrap64 ((wrap64 (ji25 * (wrap64 (a0_0 + 1)))) + (ji33))) then (if (wrap64 ((wrap64 (ji25 * (wrap64 (a0_0 + 1)))) + (ji33))) < (t166.length : Int) then (if 0 ≤ (wrap64 ((wrap64 (ji26 * (wrap64 (a0_0 + 1)))) + (ji32))) then (if (wrap64 ((wrap64 (ji26 * (wrap64 (a0_0 + 1)))) + (ji32))) < (t166.length : Int) then (if 0 ≤ (wrap64 ((wrap64 (ji25 * (wrap64 (a0_0 + 1)))) + (ji32))) then (if (wrap64 ((wrap64 (ji25 * (wrap64 (a0_0 + 1)))) + (ji32))) < (t166.length : Int) then ((morphology_majority_1.f (wrap64 ((wrap64 ((wrap64 ((rd t166 (wrap64 ((wrap64 (ji26 * (wrap64 (a0_0 + 1)))) + (ji33)))) - (rd t166 (wrap64 ((wrap64 (ji25 * (wrap64 (a0_0 + 1)))) + (ji33)))))) - (rd t166 (wrap64 ((wrap64 (ji26 * (wrap64 (a0_0 + 1)))) + (ji32)))))) + (rd t166 (wrap64 ((wrap64 (ji25 * (wrap64 (a0_0 + 1)))) + (ji32)))))) (wrap64 ((wrap64 ((wrap64 (2 * a1)) + 1)) * (wrap64 ((wrap64 (2 * a2)) + 1))))).bind fun t177 => (if 0 ≤ (wrap64 ((wrap64 (x36_1 * a0_0)) + x52_2)) then (if (wrap64 ((wrap64 (x36_1 * a0_0)) + x52_2)) < (x170004_2.length : Int) then (morphology_plane_transform_52.l1 k2 a1 a2 t166 (wrap64 ((wrap64 ((wrap64 (2 * a1)) + 1)) * (wrap64 ((wrap64 (2 * a2)) + 1)))) x36_1 ji25 ji26 a0_1 x36_1 a0_0 (wrap64 (x52_2 + 1)) a0_0 a0_1 a0_2 a0_3 l0_4 a0_0 a0_1 a0_2 a0_3 (x170004_2.set ((wrap64 ((wrap64 (x36_1 * a0_0)) + x52_2)) : Int).toNat t177)) else (none)) else (none))) else (none)) else (none)) else (none)) else (none)) else (none)) else (none)) else (none)) else (none)) = some (r1, r2, r3, r4, r5) := by first | (rw [hji33] at H; exact H) | (simp only [hji33] at H ⊢; exact H)
         have hji33_ : (if (wrap64 ((wrap64 (x52_2 + a1)) + 1)) < a0_0 then (wrap64 ((wrap64 (x52_2 + a1)) + 1)) else a0_0) = ji33 := hji33
         obtain ⟨ji34, hji34⟩ : ∃ j_ : Int, (wrap64 ((wrap64 (ji26 * (wrap64 (a0_0 + 1)))) + (ji33))) = j_ := ⟨_, rfl⟩
         replace H : (if 0 ≤ (ji34) then (if (ji34) < (t166.length : Int) then (if 0 ≤ (wrap64 ((wrap64 (ji25 * (wrap64 (a0_0 + 1)))) + (ji33))) then (if (wrap64 ((wrap64 (ji25 * (wrap64 (a0_0 + 1)))) + (ji33))) < (t166.length : Int) then (if 0 ≤ (wrap64 ((wrap64 (ji26 * (wrap64 (a0_0 + 1)))) + (ji32))) then (if (wrap64 ((wrap64 (ji26 * (wrap64 (a0_0 + 1)))) + (ji32))) < (t166.length : Int) then (if 0 ≤ (wrap64 ((wrap64 (ji25 * (wrap64 (a0_0 + 1)))) + (ji32))) then (if (wrap64 ((wrap64 (ji25 * (wrap64 (a0_0 + 1)))) + (ji32))) < (t166.length : Int) then ((morphology_majority_1.f (wrap64 ((wrap64 ((wrap64 ((rd t166 (ji34)) - (rd t166 (wrap64 ((wrap64 (ji25 * (wrap64 (a0_0 + 1)))) + (ji33)))))) - (rd t166 (wrap64 ((wrap64 (ji26 * (wrap64 (a0_0 + 1)))) + (ji32)))))) + (rd t166 (wrap64 ((wrap64 (ji25 * (wrap64 (a0_0 + 1)))) + (ji32)))))) (wrap64 ((wrap64 ((wrap64 (2 * a1)) + 1)) * (wrap64 ((wrap64 (2 * a2)) + 1))))).bind fun t177 => (if 0 ≤ (wrap64 ((wrap64 (x36_1 * a0_0)) + x52_2)) then (if (wrap64 ((wrap64 (x36_1 * a0_0)) + x52_2)) < (x170004_2.length : Int) then (morphology_plane_transform_52.l1 k2 a1 a2 t166 (wrap64 ((wrap64 ((wrap64 (2 * a1)) + 1)) * (wrap64 ((wrap64 (2 * a2)) + 1)))) x36_1 ji25 ji26 a0_1 x36_1 a0_0 (wrap64 (x52_2 + 1)) a0_0 a0_1 a0_2 a0_3 l0_4 a0_0 a0_1 a0_2 a0_3 (x170004_2.set ((wrap64 ((wrap64 (x36_1 * a0_0)) + x52_2)) : Int).toNat t177)) else (none)) else (none))) else (none)) else (none)) else (none)) else (none)) else (none)) else (none)) else (none)) else (none)) = some (r1, r2, r3, r4, r5) := by first | (rw [hji34] at H; exact H) | (simp only [hji34] at H ⊢; exact H)
         have hji34w : (IntKind.i64.wrap ((wrap64 (ji26 * (wrap64 (a0_0 + 1)))) + (ji33))) = ji34 := (i64_w _).trans hji34
         by_cases c35 : 0 ≤ (ji34)
         ·rw [if_pos c35] at H
          have c35b0 : decide (0 ≤ (ji34)) = true := decide_eq_true c35
          clear c35
          by_cases c36 : (ji34) < (t166.length : Int)
          ·rw [if_pos c36] at H
           have c36b0 : decide ((ji34) < (t166.length : Int)) = true := decide_eq_true c36
           clear c36
           obtain ⟨ji37, hji37⟩ : ∃ j_ : Int, (wrap64 ((wrap64 (ji25 * (wrap64 (a0_0 + 1)))) + (ji33))) = j_ := ⟨_, rfl⟩
           replace H : (if 0 ≤ (ji37) then (if (ji37) < (t166.length : Int) then (if 0 ≤ (wrap64 ((wrap64 (ji26 * (wrap64 (a0_0 + 1)))) + (ji32))) then (if (wrap64 ((wrap64 (ji26 * (wrap64 (a0_0 + 1)))) + (ji32))) < (t166.length : Int) then (if 0 ≤ (wrap64 ((wrap64 (ji25 * (wrap64 (a0_0 + 1)))) + (ji32))) then (if (wrap64 ((wrap64 (ji25 * (wrap64 (a0_0 + 1)))) + (ji32))) < (t166.length : Int) then ((morphology_majority_1.f (wrap64 ((wrap64 ((wrap64 ((rd t166 (ji34)) - (rd t166 (ji37)))) - (rd t166 (wrap64 ((wrap64 (ji26 * (wrap64 (a0_0 + 1)))) + (ji32)))))) + (rd t166 (wrap64 ((wrap64 (ji25 * (wrap64 (a0_0 + 1)))) + (ji32)))))) (wrap64 ((wrap64 ((wrap64 (2 * a1)) + 1)) * (wrap64 ((wrap64 (2 * a2)) + 1))))).bind fun t177 => (if 0 ≤ (wrap64 ((wrap64 (x36_1 * a0_0)) + x52_2)) then (if (wrap64 ((wrap64 (x36_1 * a0_0)) + x52_2)) < (x170004_2.length : Int) then (morphology_plane_transform_52.l1 k2 a1 a2 t166 (wrap64 ((wrap64 ((wrap64 (2 * a1)) + 1)) * (wrap64 ((wrap64 (2 * a2)) + 1)))) x36_1 ji25 ji26 a0_1 x36_1 a0_0 (wrap64 (x52_2 + 1)) a0_0 a0_1 a0_2 a0_3 l0_4 a0_0 a0_1 a0_2 a0_3 (x170004_2.set ((wrap64 ((wrap64 (x36_1 * a0_0)) + x52_2)) : Int).toNat t177)) else (none)) else (none))) else (none)) else (none)) else (none)) else (none)) else (none)) else (none)) = some (r1, r2, r3, r4, r5) := by first | (rw [hji37] at H; exact H) | (simp only [hji37] at H ⊢; exact H)
           have hji37w : (IntKind.i64.wrap ((wrap64 (ji25 * (wrap64 (a0_0 + 1)))) + (ji33))) = ji37 := (i64_w _).trans hji37
           by_cases c38 : 0 ≤ (ji37)
           ·rw [if_pos c38] at H
            have c38b0 : decide (0 ≤ (ji37)) = true := decide_eq_true c38
            clear c38
            by_cases c39 : (ji37) < (t166.length : Int)
            ·rw [if_pos c39] at H
             have c39b0 : decide ((ji37) < (t166.length : Int)) = true := decide_eq_true c39
             clear c39
             obtain ⟨ji40, hji40⟩ : ∃ j_ : Int, (wrap64 ((wrap64 (ji26 * (wrap64 (a0_0 + 1)))) + (ji32))) = j_ := ⟨_, rfl⟩
             replace H : (if 0 ≤ (ji40) then (if (ji40) < (t166.length : Int) then (if 0 ≤ (wrap64 ((wrap64 (ji25 * (wrap64 (a0_0 + 1)))) + (ji32))) then (if (wrap64 ((wrap64 (ji25 * (wrap64 (a0_0 + 1)))) + (ji32))) < (t166.length : Int) then ((morphology_majority_1.f (wrap64 ((wrap64 ((wrap64 ((rd t166 (ji34)) - (rd t166 (ji37)))) - (rd t166 (ji40)))) + (rd t166 (wrap64 ((wrap64 (ji25 * (wrap64 (a0_0 + 1)))) + (ji32)))))) (wrap64 ((wrap64 ((wrap64 (2 * a1)) + 1)) * (wrap64 ((wrap64 (2 * a2)) + 1))))).bind fun t177 => (if 0 ≤ (wrap64 ((wrap64 (x36_1 * a0_0)) + x52_2)) then (if (wrap64 ((wrap64 (x36_1 * a0_0)) + x52_2)) < (x170004_2.length : Int) then (morphology_plane_transform_52.l1 k2 a1 a2 t166 (wrap64 ((wrap64 ((wrap64 (2 * a1)) + 1)) * (wrap64 ((wrap64 (2 * a2)) + 1)))) x36_1 ji25 ji26 a0_1 x36_1 a0_0 (wrap64 (x52_2 + 1)) a0_0 a0_1 a0_2 a0_3 l0_4 a0_0 a0_1 a0_2 a0_3 (x170004_2.set ((wrap64 ((wrap64 (x36_1 * a0_0)) + x52_2)) : Int).toNat t177)) else (none)) else (none))) else (none)) else (none)) else (none)) else (none)) = some (r1, r2, r3, r4, r5) := by first | (rw [hji40] at H; exact H) | (simp only [hji40] at H ⊢; exact H)
             have hji40w : (IntKind.i64.wrap ((wrap64 (ji26 * (wrap64 (a0_0 + 1)))) + (ji32))) = ji40 := (i64_w _).trans hji40
             by_cases c41 : 0 ≤ (ji40)
             ·rw [if_pos c41] at H
              have c41b0 : decide (0 ≤ (ji40)) = true := decide_eq_true c41
              clear c41
              by_cases c42 : (ji40) < (t166.length : Int)
              ·rw [if_pos c42] at H
               have c42b0 : decide ((ji40) < (t166.length : Int)) = true := decide_eq_true c42
               clear c42
               obtain ⟨ji43, hji43⟩ : ∃ j_ : Int, (wrap64 ((wrap64 (ji25 * (wrap64 (a0_0 + 1)))) + (ji32))) = j_ := ⟨_, rfl⟩
               replace H : (if 0 ≤ (ji43) then (if (ji43) < (t166.length : Int) then ((morphology_majority_1.f (wrap64 ((wrap64 ((wrap64 ((rd t166 (ji34)) - (rd t166 (ji37)))) - (rd t166 (ji40)))) + (rd t166 (ji43)))) (wrap64 ((wrap64 ((wrap64 (2 * a1)) + 1)) * (wrap64 ((wrap64 (2 * a2)) + 1))))).bind fun t177 => (if 0 ≤ (wrap64 ((wrap64 (x36_1 * a0_0)) + x52_2)) then (if (wrap64 ((wrap64 (x36_1 * a0_0)) + x52_2)) < (x170004_2.length : Int) then (morphology_plane_transform_52.l1 k2 a1 a2 t166 (wrap64 ((wrap64 ((wrap64 (2 * a1)) + 1)) * (wrap64 ((wrap64 (2 * a2)) + 1)))) x36_1 ji25 ji26 a0_1 x36_1 a0_0 (wrap64 (x52_2 + 1)) a0_0 a0_1 a0_2 a0_3 l0_4 a0_0 a0_1 a0_2 a0_3 (x170004_2.set ((wrap64 ((wrap64 (x36_1 * a0_0)) + x52_2)) : Int).toNat t177)) else (none)) else (none))) else (none)) else (none)) = some (r1, r2, r3, r4, r5) := by first | (rw [hji43] at H; exact H) | (simp only [hji43] at H ⊢; exact H)
               have hji43w : (IntKind.i64.wrap ((wrap64 (ji25 * (wrap64 (a0_0 + 1)))) + (ji32))) = ji43 := (i64_w _).trans hji43
               by_cases c44 : 0 ≤ (ji43)
               ·rw [if_pos c44] at H
                have c44b0 : decide (0 ≤ (ji43)) = true := decide_eq_true c44
                clear c44
                by_cases c45 : (ji43) < (t166.length : Int)
                ·rw [if_pos c45] at H
                 have c45b0 : decide ((ji43) < (t166.length : Int)) = true := decide_eq_true c45
                 clear c45
                 replace H := Option.bind_eq_some_iff.mp H
                 obtain ⟨t177, A460, H⟩ := H
                 replace H : (if 0 ≤ (wrap64 ((wrap64 (x36_1 * a0_0)) + x52_2)) then (if (wrap64 ((wrap64 (x36_1 * a0_0)) + x52_2)) < (x170004_2.length : Int) then (morphology_plane_transform_52.l1 k2 a1 a2 t166 (wrap64 ((wrap64 ((wrap64 (2 * a1)) + 1)) * (wrap64 ((wrap64 (2 * a2)) + 1)))) x36_1 ji25 ji26 a0_1 x36_1 a0_0 (wrap64 (x52_2 + 1)) a0_0 a0_1 a0_2 a0_3 l0_4 a0_0 a0_1 a0_2 a0_3 (x170004_2.set ((wrap64 ((wrap64 (x36_1 * a0_0)) + x52_2)) : Int).toNat t177)) else (none)) else (none)) = some (r1, r2, r3, r4, r5) := H
                 have A46 := Aside0.mk A460
                 clear A460
                 obtain ⟨ji47, hji47⟩ : ∃ j_ : Int, (wrap64 ((wrap64 (x36_1 * a0_0)) + x52_2)) = j_ := ⟨_, rfl⟩
                 replace H : (if 0 ≤ (ji47) then (if (ji47) < (x170004_2.length : Int) then (morphology_plane_transform_52.l1 k2 a1 a2 t166 (wrap64 ((wrap64 ((wrap64 (2 * a1)) + 1)) * (wrap64 ((wrap64 (2 * a2)) + 1)))) x36_1 ji25 ji26 a0_1 x36_1 a0_0 (wrap64 (x52_2 + 1)) a0_0 a0_1 a0_2 a0_3 l0_4 a0_0 a0_1 a0_2 a0_3 (x170004_2.set ((ji47) : Int).toNat t177)) else (none)) else (none)) = some (r1, r2, r3, r4, r5) := by first | (rw [hji47] at H; exact H) | (simp only [hji47] at H ⊢; exact H)
                 (try rw [hji47] at A46)
                 have hji47w : (IntKind.i64.wrap ((wrap64 (x36_1 * a0_0)) + x52_2)) = ji47 := (i64_w _).trans hji47
                 by_cases c48 : 0 ≤ (ji47)
                 ·rw [if_pos c48] at H
                  have c48b0 : decide (0 ≤ (ji47)) = true := decide_eq_true c48
                  clear c48
                  by_cases c49 : (ji47) < (x170004_2.length : Int)
                  ·rw [if_pos c49] at H
                   have c49b0 : decide ((ji47) < (x170004_2.length : Int)) = true := decide_eq_true c49
                   clear c49
                   obtain ⟨y178, hy178⟩ : ∃ y_ : List Bool, y_ = (x170004_2.set ((ji47) : Int).toNat t177) := ⟨_, rfl⟩
                   replace H : (morphology_plane_transform_52.l1 k2 a1 a2 t166 (wrap64 ((wrap64 ((wrap64 (2 * a1)) + 1)) * (wrap64 ((wrap64 (2 * a2)) + 1)))) x36_1 ji25 ji26 a0_1 x36_1 a0_0 (wrap64 (x52_2 + 1)) a0_0 a0_1 a0_2 a0_3 l0_4 a0_0 a0_1 a0_2 a0_3 y178) = some (r1, r2, r3, r4, r5) := by first | (rw [hy178]; with_reducible exact H) | (have H2_ := (Option.bind_some _ _).symm.trans H; rw [hy178]; with_reducible exact H2_) | (have H2_ := (Option.bind_some _ _).symm.trans H; with_reducible exact H2_) | with_reducible exact H | (rw [hy178]; exact H) | exact H
                   have Ny178 := Aside0.mk hy178
                   clear hy178
                   have H' := Aside0.mk H
                   clear H
                   try go_wp2
                   have n0_ := Aside0.mk (Kd.R_drew HO_9.out)
                   have n1_ := Aside0.mk (Kd.R_drew HO_170004.out)
                   have n2_ := Aside0.mk (blk_drew BK164.out)
                   have n3_ := Aside0.mk (blk_drew BK165.out)
                   have n4_ := Aside0.mk (blk_drew BK169.out)
                   have n5_ := Aside0.mk (below_drew1 HB.out)
                   clear HO_9
                   clear HO_170004
                   clear BK164
                   clear BK165
                   clear BK169
                   clear HB
                   have HO_9 := n0_
                   have HO_170004 := n1_
                   have BK164 := n2_
                   have BK165 := n3_
                   have BK169 := n4_
                   have HB := n5_
                   clear n0_ n1_ n2_ n3_ n4_ n5_
                   refine start_ (n := 13) (S := fun w' => w'.cell? ⟨gb164, 0, none⟩ = some (.int .i64 a0_0) ∧ w'.cell? ⟨gb164, 1, none⟩ = some (.int .i64 a0_1) ∧ w'.cell? ⟨gb164, 2, none⟩ = some (.int .i64 a0_2) ∧ w'.cell? ⟨gb164, 3, none⟩ = some (.int .i64 a0_3) ∧ w'.cell? ⟨gb164, 4, none⟩ = some (.slice A0_4 l0_4.length c0_4)) (ds := []) (bA 13 0) (by kernel_rfl) rfl rfl ⟨(blk_cell BK164.out 0).trans rfl, (blk_cell BK164.out 1).trans rfl, (blk_cell BK164.out 2).trans rfl, (blk_cell BK164.out 3).trans rfl, (blk_cell BK164.out 4).trans rfl⟩ (fun hHeld => ?_); refine with_tabW morphology_plane_transform_52.tab12 morphology_plane_transform_52.bits12 (fun HT_ HW_ => ?_)
                   generalize wr.drew = w51 at HO_9 HO_170004 BK164 BK165 BK169 HB hHeld ⊢
                   refine pt HT_ 0 55 ?_
                   refine pt HT_ 1 56 ?_
                   refine pt HT_ 2 57 ?_
                   refine pt HT_ 3 58 ?_
                   refine pt HT_ 4 59 ?_
                   refine pt HT_ 6 61 ?_
                   refine pt HT_ 7 62 ?_
                   refine pt HT_ 8 63 ?_
                   refine pt HT_ 9 64 ?_
                   refine pt HT_ 11 16 ?_
                   refine tk HT_ HW_ hHeld 5 60 ?_
                   refine pt HT_ 10 65 ?_
                   refine pt HT_ 12 17 ?_
                   refine done_ (done_of HT_.out (by kernel_rfl)) ?_
                   try go_wp2
                   have n0_ := Aside0.mk (Kd.R_drew HO_9.out)
                   have n1_ := Aside0.mk (Kd.R_drew HO_170004.out)
                   have n2_ := Aside0.mk (blk_drew BK164.out)
                   have n3_ := Aside0.mk (blk_drew BK165.out)
                   have n4_ := Aside0.mk (blk_drew BK169.out)
                   have n5_ := Aside0.mk (below_drew1 HB.out)
                   clear HO_9
                   clear HO_170004
                   clear BK164
                   clear BK165
                   clear BK169
                   clear HB
                   have HO_9 := n0_
                   have HO_170004 := n1_
                   have BK164 := n2_
                   have BK165 := n3_
                   have BK169 := n4_
                   have HB := n5_
                   clear n0_ n1_ n2_ n3_ n4_ n5_
                   obtain ⟨Ao53, co53, eo53⟩ := Kd.R_slice HO_9.out
                   (first | subst eo53 | (injection eo53 with f1_ f2_ f3_; have f4_ := f1_.symm; have f5_ := f3_.symm; clear f1_ f2_ f3_; subst f4_; subst f5_))
                   have p173 : 0 ≤ ((ji34) : Int) := of_decide_eq_true (by first | (with_reducible assumption) | assumption)
                   have q173 : (ji34) < (t166.length : Int) := of_decide_eq_true (by first | (with_reducible assumption) | assumption)
                   obtain ⟨ad173, e173, hx173_0⟩ := Kd.at_int (Kd.R_reads' HO_9.out).2.2 (ji34) p173 q173
                   cases e173
                   replace p173 := eq_true p173
                   replace q173 := eq_true q173
                   have p174 : 0 ≤ ((ji37) : Int) := of_decide_eq_true (by first | (with_reducible assumption) | assumption)
                   have q174 : (ji37) < (t166.length : Int) := of_decide_eq_true (by first | (with_reducible assumption) | assumption)
                   obtain ⟨ad174, e174, hx174_0⟩ := Kd.at_int (Kd.R_reads' HO_9.out).2.2 (ji37) p174 q174
                   obtain rfl : ad173 = ad174 := (by injection e174)
                   replace p174 := eq_true p174
                   replace q174 := eq_true q174
                   have p175 : 0 ≤ ((ji40) : Int) := of_decide_eq_true (by first | (with_reducible assumption) | assumption)
                   have q175 : (ji40) < (t166.length : Int) := of_decide_eq_true (by first | (with_reducible assumption) | assumption)
                   obtain ⟨ad175, e175, hx175_0⟩ := Kd.at_int (Kd.R_reads' HO_9.out).2.2 (ji40) p175 q175
                   obtain rfl : ad173 = ad175 := (by injection e175)
                   replace p175 := eq_true p175
                   replace q175 := eq_true q175
                   have p176 : 0 ≤ ((ji43) : Int) := of_decide_eq_true (by first | (with_reducible assumption) | assumption)
                   have q176 : (ji43) < (t166.length : Int) := of_decide_eq_true (by first | (with_reducible assumption) | assumption)
                   obtain ⟨ad176, e176, hx176_0⟩ := Kd.at_int (Kd.R_reads' HO_9.out).2.2 (ji43) p176 q176
                   obtain rfl : ad173 = ad176 := (by injection e176)
                   replace p176 := eq_true p176
                   replace q176 := eq_true q176
                   refine start_ (n := 44) (S := fun w' => w'.cell? ⟨gb164, 0, none⟩ = some (.int .i64 a0_0) ∧ w'.cell? ⟨gb164, 1, none⟩ = some (.int .i64 a0_1) ∧ w'.cell? ⟨gb164, 2, none⟩ = some (.int .i64 a0_2) ∧ w'.cell? ⟨gb164, 3, none⟩ = some (.int .i64 a0_3) ∧ w'.cell? ⟨gb164, 4, none⟩ = some (.slice A0_4 l0_4.length c0_4) ∧ w'.cell? (ad173.add ((ji34)).toNat) = some (.int .i64 (rd t166 (ji34))) ∧ w'.cell? (ad173.add ((ji37)).toNat) = some (.int .i64 (rd t166 (ji37))) ∧ w'.cell? (ad173.add ((ji40)).toNat) = some (.int .i64 (rd t166 (ji40))) ∧ w'.cell? (ad173.add ((ji43)).toNat) = some (.int .i64 (rd t166 (ji43)))) (ds := []) (bA 44 0) (by kernel_rfl) rfl rfl ⟨(blk_cell BK164.out 0).trans rfl, (blk_cell BK164.out 1).trans rfl, (blk_cell BK164.out 2).trans rfl, (blk_cell BK164.out 3).trans rfl, (blk_cell BK164.out 4).trans rfl, hx173_0, hx174_0, hx175_0, hx176_0⟩ (fun hHeld => ?_); refine with_tabW morphology_plane_transform_52.tab13 morphology_plane_transform_52.bits13 (fun HT_ HW_ => ?_)
                   generalize w51.drew = w52 at HO_9 HO_170004 BK164 BK165 BK169 HB hx173_0 hx174_0 hx175_0 hx176_0 hHeld ⊢
                   refine pt HT_ 0 66 ?_
                   refine pt HT_ 1 67 ?_
                   refine pt HT_ 2 68 ?_
                   refine pt HT_ 6 72 ?_
                   refine pt HT_ 10 76 ?_
                   refine pt HT_ 11 77 ?_
                   refine pt HT_ 12 78 ?_
                   refine pt HT_ 16 82 ?_
                   refine pt HT_ 21 87 ?_
                   refine pt HT_ 22 88 ?_
                   refine pt HT_ 23 89 ?_
                   refine pt HT_ 27 93 ?_
                   refine pt HT_ 32 98 ?_
                   refine pt HT_ 33 99 ?_
                   refine pt HT_ 34 100 ?_
                   refine pt HT_ 38 104 ?_
                   refine tk HT_ HW_ hHeld 3 69 ?_
                   refine pt HT_ 4 70 ?_
                   refine pt HT_ 5 71 ?_
                   refine pt HT_ 7 73 ?_
                   refine pt HT_ 8 74 ?_
                   refine tk HT_ HW_ hHeld 9 75 ?_
                   refine tk HT_ HW_ hHeld 13 79 ?_
                   refine pt HT_ 14 80 ?_
                   refine pt HT_ 15 81 ?_
                   refine pt HT_ 17 83 ?_
                   refine pt HT_ 18 84 ?_
                   refine tk HT_ HW_ hHeld 19 85 ?_
                   refine pt HT_ 20 86 ?_
                   refine tk HT_ HW_ hHeld 24 90 ?_
                   refine pt HT_ 25 91 ?_
                   refine pt HT_ 26 92 ?_
                   refine pt HT_ 28 94 ?_
                   refine pt HT_ 29 95 ?_
                   refine tk HT_ HW_ hHeld 30 96 ?_
                   refine pt HT_ 31 97 ?_
                   refine tk HT_ HW_ hHeld 35 101 ?_
                   refine pt HT_ 36 102 ?_
                   refine pt HT_ 37 103 ?_
                   refine pt HT_ 39 105 ?_
                   refine pt HT_ 40 106 ?_
                   refine tk HT_ HW_ hHeld 41 107 ?_
                   refine pt HT_ 42 108 ?_
                   refine pt HT_ 43 18 ?_
                   refine done_ (done_of HT_.out (by kernel_rfl)) ?_
                   try go_wp2
                   have n0_ := Aside0.mk (Kd.R_drew HO_9.out)
                   have n1_ := Aside0.mk (Kd.R_drew HO_170004.out)
                   have n2_ := Aside0.mk (blk_drew BK164.out)
                   have n3_ := Aside0.mk (blk_drew BK165.out)
                   have n4_ := Aside0.mk (blk_drew BK169.out)
                   have n5_ := Aside0.mk (below_drew1 HB.out)
                   clear HO_9
                   clear HO_170004
                   clear BK164
                   clear BK165
                   clear BK169
                   clear HB
                   have HO_9 := n0_
                   have HO_170004 := n1_
                   have BK164 := n2_
                   have BK165 := n3_
                   have BK169 := n4_
                   have HB := n5_
                   clear n0_ n1_ n2_ n3_ n4_ n5_
                   refine start_ (n := 14) (S := fun w' => w'.cell? ⟨gb169, 0, none⟩ = some (.int .i64 a0_0) ∧ w'.cell? ⟨gb169, 1, none⟩ = some (.int .i64 a0_1) ∧ w'.cell? ⟨gb169, 2, none⟩ = some (.int .i64 a0_2) ∧ w'.cell? ⟨gb169, 3, none⟩ = some (.int .i64 a0_3) ∧ w'.cell? ⟨gb169, 4, none⟩ = some (u170004) ∧ w'.cell? ⟨gb164, 0, none⟩ = some (.int .i64 a0_0) ∧ w'.cell? ⟨gb164, 1, none⟩ = some (.int .i64 a0_1) ∧ w'.cell? ⟨gb164, 2, none⟩ = some (.int .i64 a0_2) ∧ w'.cell? ⟨gb164, 3, none⟩ = some (.int .i64 a0_3) ∧ w'.cell? ⟨gb164, 4, none⟩ = some (.slice A0_4 l0_4.length c0_4)) (ds := [13]) (bA 14 0) (by kernel_rfl) rfl rfl ⟨(blk_cell BK169.out 0).trans rfl, (blk_cell BK169.out 1).trans rfl, (blk_cell BK169.out 2).trans rfl, (blk_cell BK169.out 3).trans rfl, (blk_cell BK169.out 4).trans rfl, (blk_cell BK164.out 0).trans rfl, (blk_cell BK164.out 1).trans rfl, (blk_cell BK164.out 2).trans rfl, (blk_cell BK164.out 3).trans rfl, (blk_cell BK164.out 4).trans rfl⟩ (fun hHeld => ?_); refine with_tabW morphology_plane_transform_52.tab14 morphology_plane_transform_52.bits14 (fun HT_ HW_ => ?_)
                   generalize w52.drew = w54 at HO_9 HO_170004 BK164 BK165 BK169 HB hHeld ⊢
                   refine pt HT_ 0 109 ?_
                   refine pt HT_ 2 111 ?_
                   refine pt HT_ 3 112 ?_
                   refine pt HT_ 6 115 ?_
                   refine pt HT_ 8 117 ?_
                   refine pt HT_ 9 118 ?_
                   refine pt HT_ 10 119 ?_
                   refine tk HT_ HW_ hHeld 1 110 ?_
                   refine tk HT_ HW_ hHeld 4 113 ?_
                   refine pt HT_ 5 114 ?_
                   refine pt HT_ 7 116 ?_
                   refine one_ (i := 11) (N := some 120) (bA 14 4095) rfl rfl (one_of HT_.out (by kernel_rfl)) (by decide) (fun K hK => ?_)
                   refine goesT_ Try.func52 (by kernel_rfl) rfl #[.int .i64 (wrap64 ((wrap64 ((wrap64 ((rd t166 (ji34)) - (rd t166 (ji37)))) - (rd t166 (ji40)))) + (rd t166 (ji43)))), .int .i64 (wrap64 ((wrap64 ((wrap64 (2 * a1)) + 1)) * (wrap64 ((wrap64 (2 * a2)) + 1))))] (by rfl) rfl rfl (by (try simp only [List.map_toArray, List.map_cons, List.map_nil]); first | done | (simp only [hji34, hji37, hji40, hji43]; rfl) | rfl | (simp only [List.length_drop, List.length_take]; rfl)) ?_
                   with_reducible refine (morphology_majority_1.calls (wrap64 ((wrap64 ((wrap64 ((rd t166 (ji34)) - (rd t166 (ji37)))) - (rd t166 (ji40)))) + (rd t166 (ji43)))) (wrap64 ((wrap64 ((wrap64 (2 * a1)) + 1)) * (wrap64 ((wrap64 (2 * a2)) + 1)))) t177 _ A46.out).mono ?_
                   rintro e w' ⟨rfl, ⟨nd, rfl⟩⟩
                   refine ⟨_, rfl, ?_⟩
                   have p50 : 0 ≤ ((ji47) : Int) := of_decide_eq_true (by first | (with_reducible assumption) | assumption)
                   have q50 : ((ji47) : Int) < ((x170004_2.length : Int) : Int) := of_decide_eq_true (by first | (with_reducible assumption) | assumption)
                   obtain ⟨go50, co50, eo50, gb50, gl50, cl50, HG50⟩ := Kd.R_form HO_170004.out (by omega)
                   (first | cases eo50 | (injection eo50 with ea_ en_ ec_; (first | subst ea_ | (injection ea_ with ea_; subst ea_)); subst ec_; clear en_))
                   have GB50 := Aside0.mk gb50
                   have GG50 := Aside0.mk HG50
                   clear gb50 gl50 HG50
                   obtain ⟨hx50_0, hf50_0⟩ := Kd.R_celln false HO_170004.out ((ji47) : Int) p50 q50
                   replace p50 := eq_true p50
                   replace q50 := eq_true q50
                   have HP55 := Kd.R_putn HO_170004.out ((ji47) : Int) t177
                   rw [← Ny178.out] at HP55
                   have HQ55 := Aside0.mk HP55
                   clear HP55
                   refine hK.out _ _ ⟨(blk_cell BK169.out 0).trans rfl, (blk_cell BK169.out 1).trans rfl, (blk_cell BK169.out 2).trans rfl, (blk_cell BK169.out 3).trans rfl, (blk_cell BK169.out 4).trans rfl, (blk_cell BK164.out 0).trans rfl, (blk_cell BK164.out 1).trans rfl, (blk_cell BK164.out 2).trans rfl, (blk_cell BK164.out 3).trans rfl, (blk_cell BK164.out 4).trans rfl⟩ (fun hHeld => ?_)
                   clear hK K
                   refine norm_ (a' := ?_) ?_ ?_
                   rotate_left
                   ·show Act.put _ (some 120) _ = _
                    simp only [Act.put, List.setIfInBounds_toArray, List.set_cons_zero, List.set_cons_succ, i64_w, i32_w]
                    rfl
                   refine pt HT_ 12 121 ?_
                   refine last_ (i := 13) (N := none) (bA 14 16383) rfl rfl (one_of HT_.out (by kernel_rfl)) (by decide) (fun K hK => ?_)
                   refine skip_ (w1 := ?_) (by rfl) rfl ?_ ?_
                   rotate_left
                   ·go_simp
                    rfl
                   refine hK.out _ _ ?_
                   clear hK K
                   refine done_ (done_of HT_.out (by kernel_rfl)) ?_
                   try go_wp2
                   go_roundg k2
                   case measure => have := HK1.out; have := HK2.out; omega
                   case rel => exact ⟨(wrap64 (x52_2 + 1)), (y178), (.slice (some ⟨go50, 0, none⟩) x170004_2.length co50), (by first | rfl | (simp; done) | (simp [*]; done)), H', ⟨by have := HK1.out; have := HK2.out; omega⟩, ⟨by refine rkt ?_; exact Kd.R_mono (Kd.R_far (p := ⟨go50, ((ji47) : Int).toNat, none⟩) (Kd.R_types HO_9.out GG50.out (by decide)) (fun _ hk => hk.2) (.bool t177)) (fun _ hk => trivial)⟩, ⟨rkx HQ55⟩, ⟨by refine bkt ?_; refine blk_far ?_ (by have h_ := Kd.R_ne HO_170004.out BK164.out (by decide); intro e_; exact h_ (by rw [e_]; rfl)) _; refine bkt ?_; exact BK164.out⟩, ⟨by refine bkt ?_; refine blk_far ?_ (by have h_ := Kd.R_ne HO_170004.out BK165.out (by decide); intro e_; exact h_ (by rw [e_]; rfl)) _; refine bkt ?_; exact BK165.out⟩, ⟨by refine bkt ?_; refine blk_far ?_ (by have h_ := Kd.R_ne HO_170004.out BK169.out (by decide); intro e_; exact h_ (by rw [e_]; rfl)) _; refine bkt ?_; exact BK169.out⟩, ⟨hb4 HB GB50 GE164 GE165 GE169⟩⟩
                  ·rw [if_neg c49] at H
                   exact absurd H (by simp)
                 ·rw [if_neg c48] at H
                  exact absurd H (by simp)
                ·rw [if_neg c45] at H
                 exact absurd H (by simp)
               ·rw [if_neg c44] at H
                exact absurd H (by simp)
              ·rw [if_neg c42] at H
               exact absurd H (by simp)
             ·rw [if_neg c41] at H
              exact absurd H (by simp)
            ·rw [if_neg c39] at H
             exact absurd H (by simp)
           ·rw [if_neg c38] at H
            exact absurd H (by simp)
          ·rw [if_neg c36] at H
           exact absurd H (by simp)
         ·rw [if_neg c35] at H
          exact absurd H (by simp)
        ·rw [if_neg c31] at H
         have c31b0 : decide (x52_2 < a0_0) = false := decide_eq_false c31
         clear c31
         have H' := Aside0.mk H
         clear H
         go_wp2
         go_roundg k2
         case measure => have := HK1.out; have := HK2.out; omega
         case rel => exact ⟨(wrap64 (x36_1 + 1)), (x170004_2), (u170004), (by first | rfl | (simp; done) | (simp [*]; done)), H', ⟨by have := HK1.out; have := HK2.out; omega⟩, ⟨rkx HO_9⟩, ⟨rkx HO_170004⟩, ⟨bkx BK164⟩, ⟨bkx BK165⟩, ⟨bkx BK169⟩, ⟨hb3 HB GE164 GE165 GE169⟩⟩
     ·rw [if_neg c24] at H
      have c24b0 : decide (x36_1 < a0_1) = false := decide_eq_false c24
      clear c24
      simp only [Option.some.injEq, Prod.mk.injEq] at H
      obtain ⟨rfl, rfl, rfl, rfl, rfl⟩ := H
      have hnb56 := NB169_164.out
      have hnc56 := NB164_169.out
      have hnb57 := NB169_165.out
      have hnc57 := NB165_169.out
      have hcz58_0 : wr.cell? ⟨gb169, 0, none⟩ = some (.int .i64 a0_0) := (blk_cell BK169.out 0).trans rfl
      have hcz58_1 : wr.cell? ⟨gb169, 1, none⟩ = some (.int .i64 a0_1) := (blk_cell BK169.out 1).trans rfl
      have hcz58_2 : wr.cell? ⟨gb169, 2, none⟩ = some (.int .i64 a0_2) := (blk_cell BK169.out 2).trans rfl
      have hcz58_3 : wr.cell? ⟨gb169, 3, none⟩ = some (.int .i64 a0_3) := (blk_cell BK169.out 3).trans rfl
      have hcz58_4 : wr.cell? ⟨gb169, 4, none⟩ = some (u170004) := (blk_cell BK169.out 4).trans rfl
      have hfz58_0 := blk_frozen BK169.out 0
      have hfz58_1 := blk_frozen BK169.out 1
      have hfz58_2 := blk_frozen BK169.out 2
      have hfz58_3 := blk_frozen BK169.out 3
      have hfz58_4 := blk_frozen BK169.out 4
      have hnb59 := NB165_164.out
      have hnc59 := NB164_165.out
      have hcz60_0 : wr.cell? ⟨gb165, 0, none⟩ = some (.int .i64 0) := (blk_cell BK165.out 0).trans rfl
      have hcz60_1 : wr.cell? ⟨gb165, 1, none⟩ = some (.int .i64 0) := (blk_cell BK165.out 1).trans rfl
      have hcz60_2 : wr.cell? ⟨gb165, 2, none⟩ = some (.int .i64 0) := (blk_cell BK165.out 2).trans rfl
      have hcz60_3 : wr.cell? ⟨gb165, 3, none⟩ = some (.int .i64 0) := (blk_cell BK165.out 3).trans rfl
      have hcz60_4 : wr.cell? ⟨gb165, 4, none⟩ = some (.slice none 0 0) := (blk_cell BK165.out 4).trans rfl
      have hfz60_0 := blk_frozen BK165.out 0
      have hfz60_1 := blk_frozen BK165.out 1
      have hfz60_2 := blk_frozen BK165.out 2
      have hfz60_3 := blk_frozen BK165.out 3
      have hfz60_4 := blk_frozen BK165.out 4
      obtain ⟨Ao61, co61, eo61⟩ := Kd.R_slice HO_170004.out
      subst eo61
      go_wp2
      refine bodyPost_ret (results_cell_row rfl _ _ gb165 50 #[.int .i64 a0_0, .int .i64 a0_1, .int .i64 a0_2, .int .i64 a0_3, .slice Ao61 x170004_1.length co61] (0, 0) _ rfl (by refine bkt ?_; refine blk_put (cs := #[.int .i64 a0_0, .int .i64 a0_1, .int .i64 a0_2, .int .i64 a0_3, .slice none 0 0]) ?_ 4 _ rfl; refine bkt ?_; refine blk_put (cs := #[.int .i64 a0_0, .int .i64 a0_1, .int .i64 a0_2, .int .i64 0, .slice none 0 0]) ?_ 3 _ rfl; refine bkt ?_; refine blk_put (cs := #[.int .i64 a0_0, .int .i64 a0_1, .int .i64 0, .int .i64 0, .slice none 0 0]) ?_ 2 _ rfl; refine bkt ?_; refine blk_put (cs := #[.int .i64 a0_0, .int .i64 0, .int .i64 0, .int .i64 0, .slice none 0 0]) ?_ 1 _ rfl; refine bkt ?_; refine blk_put (cs := #[.int .i64 0, .int .i64 0, .int .i64 0, .int .i64 0, .slice none 0 0]) ?_ 0 _ rfl; refine bkt ?_; exact BK165.out) Try.underlying50 rfl (by kernel_rfl)) rfl ?_
      exact ⟨_, by first | rfl | (simp [errW_none, errW_some] <;> rfl) | (simp [*, errW_none, errW_some] <;> rfl), by refine rkt ?_; exact Kd.R_mono (Kd.R_far (p := ⟨gb165, 4, none⟩) (Kd.R_far (p := ⟨gb165, 3, none⟩) (Kd.R_far (p := ⟨gb165, 2, none⟩) (Kd.R_far (p := ⟨gb165, 1, none⟩) (Kd.R_far (p := ⟨gb165, 0, none⟩) (Kd.R_types HO_170004.out BK165.out (by decide)) (fun _ hk => hk.2) (.int .i64 a0_0)) (fun _ hk => hk.2) (.int .i64 a0_1)) (fun _ hk => hk.2) (.int .i64 a0_2)) (fun _ hk => hk.2) (.int .i64 a0_3)) (fun _ hk => hk.2) (.slice Ao61 x170004_1.length co61)) (fun _ hk => trivial), by repeat (first | (with_reducible first | exact HB.out | apply below_alloc | apply pw_below_drewN | apply below_drew1 | refine below_set ?_ GE164.out | refine below_set ?_ GE165.out | refine below_set ?_ GE169.out) | exact HB.out)⟩
  ·rw [if_neg c7] at H
   exact absurd H (by simp)
 ·rw [if_neg c6] at H
  exact absurd H (by simp)

def morphology_plane_transform.f (k : Nat) (a0_0 : Int) (a0_1 : Int) (a0_2 : Int) (a0_3 : Int) (l0_4 : List Bool) (a1 : Int) (a2 : Int) (a3 : Nat) : Option (Int × Int × Int × Int × List Bool) := if a3 = 46 then morphology_plane_transform_46.f k a0_0 a0_1 a0_2 a0_3 l0_4 a1 a2 else if a3 = 47 then morphology_plane_transform_47.f k a0_0 a0_1 a0_2 a0_3 l0_4 a1 a2 else if a3 = 52 then morphology_plane_transform_52.f k a0_0 a0_1 a0_2 a0_3 l0_4 a1 a2 else none
theorem morphology_plane_transform.mono : ∀ a0_0 a0_1 a0_2 a0_3 l0_4 a1 a2 a3 k, LeO (morphology_plane_transform.f k a0_0 a0_1 a0_2 a0_3 l0_4 a1 a2 a3) (morphology_plane_transform.f (k + 1) a0_0 a0_1 a0_2 a0_3 l0_4 a1 a2 a3) := by
 intro a0_0 a0_1 a0_2 a0_3 l0_4 a1 a2 a3 k
 unfold morphology_plane_transform.f
 by_cases c46 : a3 = 46
 ·simp only [if_pos c46]; exact morphology_plane_transform_46.mono a0_0 a0_1 a0_2 a0_3 l0_4 a1 a2 k
 simp only [if_neg c46]
 by_cases c47 : a3 = 47
 ·simp only [if_pos c47]; exact morphology_plane_transform_47.mono a0_0 a0_1 a0_2 a0_3 l0_4 a1 a2 k
 simp only [if_neg c47]
 by_cases c52 : a3 = 52
 ·simp only [if_pos c52]; exact morphology_plane_transform_52.mono a0_0 a0_1 a0_2 a0_3 l0_4 a1 a2 k
 simp only [if_neg c52]
 exact fun r h => h
theorem morphology_plane_transform.calls (k : Nat) (a0_0 : Int) (a0_1 : Int) (a0_2 : Int) (a0_3 : Int) (A0_4 : Option Addr) (c0_4 : Nat) (l0_4 : List Bool) (a1 : Int) (a2 : Int) (a3 : Nat) (r1 : Int) (r2 : Int) (r3 : Int) (r4 : Int) (r5 : List Bool) (w : World) (hr0_4 : Kd.C Kd.bool w A0_4 l0_4.length l0_4) (hc0_4 : l0_4.length ≤ c0_4) (h : morphology_plane_transform.f k a0_0 a0_1 a0_2 a0_3 l0_4 a1 a2 a3 = some (r1, r2, r3, r4, r5)) :
  Calls Try.prog 37 #[.agg #[.int .i64 a0_0, .int .i64 a0_1, .int .i64 a0_2, .int .i64 a0_3, .slice A0_4 l0_4.length c0_4], .int .i64 a1, .int .i64 a2, XFn.enc a3] w fun e w' => ∃ v4_ : Value, e = .returned (.agg #[.int .i64 r1, .int .i64 r2, .int .i64 r3, .int .i64 r4, v4_]) ∧ Kd.R Kd.bool 4 w' w.heap.size (fun _ => True) v4_ r5 ∧ Below w.heap.size w w' := by
 unfold morphology_plane_transform.f at h
 by_cases c46 : a3 = 46
 ·subst c46
  rw [if_pos rfl] at h
  exact morphology_plane_transform_46.calls k a0_0 a0_1 a0_2 a0_3 A0_4 c0_4 l0_4 a1 a2 r1 r2 r3 r4 r5 w hr0_4 hc0_4 h
 rw [if_neg c46] at h
 by_cases c47 : a3 = 47
 ·subst c47
  rw [if_pos rfl] at h
  exact morphology_plane_transform_47.calls k a0_0 a0_1 a0_2 a0_3 A0_4 c0_4 l0_4 a1 a2 r1 r2 r3 r4 r5 w hr0_4 hc0_4 h
 rw [if_neg c47] at h
 by_cases c52 : a3 = 52
 ·subst c52
  rw [if_pos rfl] at h
  exact morphology_plane_transform_52.calls k a0_0 a0_1 a0_2 a0_3 A0_4 c0_4 l0_4 a1 a2 r1 r2 r3 r4 r5 w hr0_4 hc0_4 h
 rw [if_neg c52] at h
 cases h

end Go.Proofs.Ytkakiblnhgpdnaa.PR
