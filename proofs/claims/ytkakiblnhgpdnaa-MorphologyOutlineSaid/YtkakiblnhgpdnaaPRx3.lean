-- Written by this session's own program (myprint.py).
import Derived.Test.YtkakiblnhgpdnaaPRx0
namespace Go.Proofs.Ytkakiblnhgpdnaa.PR
open Go.RowKit Go.Proofs.YtkakiblnhgpdnaaW.PrintWords Go.Proofs.YtkakiblnhgpdnaaW.PrintLast Go.Proofs.YtkakiblnhgpdnaaW.PrintMore Go.Proofs.Ytkakiblnhgpdnaa.XWords Go.Proofs.Ytkakiblnhgpdnaa.XShort Go.Proofs.Ytkakiblnhgpdnaa.XFn
attribute [local go_sem] max2_int min2_int max_two min_two max_three min_three max_four min_four   -- for this text's walks alone
set_option linter.unusedVariables false
set_option linter.unusedSimpArgs false

/-! ### morphology_plane_sums: function 51 -/
mutual
def morphology_plane_sums.l0 : Nat → List Int → Int → Int → Int → Int → Int → Int → List Bool → Option (List Int)
 | 0, _, _, _, _, _, _, _, _ => none
 | k + 1, x3, x17, x18, x122000, x122001, x122002, x122003, x122004 => if x18 < x17 then (morphology_plane_sums.l1 k x3 x18 x17 x18 x122000 0 x122000 x122001 x122002 x122003 x122004) else (some x3)
def morphology_plane_sums.l1 : Nat → List Int → Int → Int → Int → Int → Int → Int → Int → Int → Int → List Bool → Option (List Int)
 | 0, _, _, _, _, _, _, _, _, _, _, _ => none
 | k + 1, x3, x4, x17, x18, x22, x23, x122000, x122001, x122002, x122003, x122004 => if x23 < x22 then (if 0 ≤ (wrap64 ((wrap64 (x4 * x122000)) + x23)) then (if (wrap64 ((wrap64 (x4 * x122000)) + x23)) < (x122004.length : Int) then (if rdOf false x122004 (wrap64 ((wrap64 (x4 * x122000)) + x23)) = true then (if 0 ≤ (wrap64 ((wrap64 ((wrap64 ((wrap64 ((wrap64 (x4 + 1)) * (wrap64 (x122000 + 1)))) + x23)) + 1)) - 1)) then (if (wrap64 ((wrap64 ((wrap64 ((wrap64 ((wrap64 (x4 + 1)) * (wrap64 (x122000 + 1)))) + x23)) + 1)) - 1)) < (x3.length : Int) then (if 0 ≤ (wrap64 ((wrap64 ((wrap64 ((wrap64 ((wrap64 ((wrap64 (x4 + 1)) * (wrap64 (x122000 + 1)))) + x23)) + 1)) - x122000)) - 1)) then (if (wrap64 ((wrap64 ((wrap64 ((wrap64 ((wrap64 ((wrap64 (x4 + 1)) * (wrap64 (x122000 + 1)))) + x23)) + 1)) - x122000)) - 1)) < (x3.length : Int) then (if 0 ≤ (wrap64 ((wrap64 ((wrap64 ((wrap64 ((wrap64 ((wrap64 (x4 + 1)) * (wrap64 (x122000 + 1)))) + x23)) + 1)) - x122000)) - 2)) then (if (wrap64 ((wrap64 ((wrap64 ((wrap64 ((wrap64 ((wrap64 (x4 + 1)) * (wrap64 (x122000 + 1)))) + x23)) + 1)) - x122000)) - 2)) < (x3.length : Int) then (if 0 ≤ (wrap64 ((wrap64 ((wrap64 ((wrap64 (x4 + 1)) * (wrap64 (x122000 + 1)))) + x23)) + 1)) then (if (wrap64 ((wrap64 ((wrap64 ((wrap64 (x4 + 1)) * (wrap64 (x122000 + 1)))) + x23)) + 1)) < (x3.length : Int) then (morphology_plane_sums.l1 k (x3.set ((wrap64 ((wrap64 ((wrap64 ((wrap64 (x4 + 1)) * (wrap64 (x122000 + 1)))) + x23)) + 1)) : Int).toNat (wrap64 ((wrap64 ((wrap64 (1 + (rd x3 (wrap64 ((wrap64 ((wrap64 ((wrap64 ((wrap64 (x4 + 1)) * (wrap64 (x122000 + 1)))) + x23)) + 1)) - 1))))) + (rd x3 (wrap64 ((wrap64 ((wrap64 ((wrap64 ((wrap64 ((wrap64 (x4 + 1)) * (wrap64 (x122000 + 1)))) + x23)) + 1)) - x122000)) - 1))))) - (rd x3 (wrap64 ((wrap64 ((wrap64 ((wrap64 ((wrap64 ((wrap64 (x4 + 1)) * (wrap64 (x122000 + 1)))) + x23)) + 1)) - x122000)) - 2)))))) x4 x17 x18 x22 (wrap64 (x23 + 1)) x122000 x122001 x122002 x122003 x122004) else (none)) else (none)) else (none)) else (none)) else (none)) else (none)) else (none)) else (none)) else (if 0 ≤ (wrap64 ((wrap64 ((wrap64 ((wrap64 ((wrap64 (x4 + 1)) * (wrap64 (x122000 + 1)))) + x23)) + 1)) - 1)) then (if (wrap64 ((wrap64 ((wrap64 ((wrap64 ((wrap64 (x4 + 1)) * (wrap64 (x122000 + 1)))) + x23)) + 1)) - 1)) < (x3.length : Int) then (if 0 ≤ (wrap64 ((wrap64 ((wrap64 ((wrap64 ((wrap64 ((wrap64 (x4 + 1)) * (wrap64 (x122000 + 1)))) + x23)) + 1)) - x122000)) - 1)) then (if (wrap64 ((wrap64 ((wrap64 ((wrap64 ((wrap64 ((wrap64 (x4 + 1)) * (wrap64 (x122000 + 1)))) + x23)) + 1)) - x122000)) - 1)) < (x3.length : Int) then (if 0 ≤ (wrap64 ((wrap64 ((wrap64 ((wrap64 ((wrap64 ((wrap64 (x4 + 1)) * (wrap64 (x122000 + 1)))) + x23)) + 1)) - x122000)) - 2)) then (if (wrap64 ((wrap64 ((wrap64 ((wrap64 ((wrap64 ((wrap64 (x4 + 1)) * (wrap64 (x122000 + 1)))) + x23)) + 1)) - x122000)) - 2)) < (x3.length : Int) then (if 0 ≤ (wrap64 ((wrap64 ((wrap64 ((wrap64 (x4 + 1)) * (wrap64 (x122000 + 1)))) + x23)) + 1)) then (if (wrap64 ((wrap64 ((wrap64 ((wrap64 (x4 + 1)) * (wrap64 (x122000 + 1)))) + x23)) + 1)) < (x3.length : Int) then (morphology_plane_sums.l1 k (x3.set ((wrap64 ((wrap64 ((wrap64 ((wrap64 (x4 + 1)) * (wrap64 (x122000 + 1)))) + x23)) + 1)) : Int).toNat (wrap64 ((wrap64 ((wrap64 ((rd x3 (wrap64 ((wrap64 ((wrap64 ((wrap64 ((wrap64 (x4 + 1)) * (wrap64 (x122000 + 1)))) + x23)) + 1)) - 1))))) + (rd x3 (wrap64 ((wrap64 ((wrap64 ((wrap64 ((wrap64 ((wrap64 (x4 + 1)) * (wrap64 (x122000 + 1)))) + x23)) + 1)) - x122000)) - 1))))) - (rd x3 (wrap64 ((wrap64 ((wrap64 ((wrap64 ((wrap64 ((wrap64 (x4 + 1)) * (wrap64 (x122000 + 1)))) + x23)) + 1)) - x122000)) - 2)))))) x4 x17 x18 x22 (wrap64 (x23 + 1)) x122000 x122001 x122002 x122003 x122004) else (none)) else (none)) else (none)) else (none)) else (none)) else (none)) else (none)) else (none))) else (none)) else (none)) else (morphology_plane_sums.l0 k x3 x17 (wrap64 (x18 + 1)) x122000 x122001 x122002 x122003 x122004)
end
def morphology_plane_sums.f (k : Nat) (a0_0 : Int) (a0_1 : Int) (a0_2 : Int) (a0_3 : Int) (l0_4 : List Bool) : Option (List Int) := if 0 ≤ (wrap64 ((wrap64 (a0_0 + 1)) * (wrap64 (a0_1 + 1)))) then (if (wrap64 ((wrap64 (a0_0 + 1)) * (wrap64 (a0_1 + 1))) : Int).toNat ≤ 35184372088832 then (morphology_plane_sums.l0 k (List.replicate (wrap64 ((wrap64 (a0_0 + 1)) * (wrap64 (a0_1 + 1))) : Int).toNat 0) a0_1 0 a0_0 a0_1 a0_2 a0_3 l0_4) else (none)) else (none)
theorem morphology_plane_sums.mono_l : ∀ k, (∀ y0 y1 y2 y3 y4 y5 y6 y7, LeO (morphology_plane_sums.l0 k y0 y1 y2 y3 y4 y5 y6 y7) (morphology_plane_sums.l0 (k + 1) y0 y1 y2 y3 y4 y5 y6 y7)) ∧ (∀ y0 y1 y2 y3 y4 y5 y6 y7 y8 y9 y10, LeO (morphology_plane_sums.l1 k y0 y1 y2 y3 y4 y5 y6 y7 y8 y9 y10) (morphology_plane_sums.l1 (k + 1) y0 y1 y2 y3 y4 y5 y6 y7 y8 y9 y10))
 | 0 => ⟨fun _ _ _ _ _ _ _ _ r h => by simp [morphology_plane_sums.l0] at h, fun _ _ _ _ _ _ _ _ _ _ _ r h => by simp [morphology_plane_sums.l1] at h⟩
 | k + 1 => by
  obtain ⟨ih0, ih1⟩ := morphology_plane_sums.mono_l k
  refine ⟨?_, ?_⟩
  ·intro y0 y1 y2 y3 y4 y5 y6 y7
   unfold morphology_plane_sums.l0
   repeat' first
   | (with_reducible exact ih0 _ _ _ _ _ _ _ _)
   | (with_reducible exact ih1 _ _ _ _ _ _ _ _ _ _ _)
   | (with_reducible exact LeO.refl _)
   | (with_reducible exact LeO.none _)
   | (with_reducible refine LeO.ite ?_ ?_)
   | (with_reducible refine LeO.bind ?_ (fun _ => ?_))
   | exact ih0 _ _ _ _ _ _ _ _
   | exact ih1 _ _ _ _ _ _ _ _ _ _ _
   | exact LeO.none _
   | refine LeO.ite ?_ ?_
   | refine LeO.bind ?_ (fun _ => ?_)
  ·intro y0 y1 y2 y3 y4 y5 y6 y7 y8 y9 y10
   unfold morphology_plane_sums.l1
   repeat' first
   | (with_reducible exact ih0 _ _ _ _ _ _ _ _)
   | (with_reducible exact ih1 _ _ _ _ _ _ _ _ _ _ _)
   | (with_reducible exact LeO.refl _)
   | (with_reducible exact LeO.none _)
   | (with_reducible refine LeO.ite ?_ ?_)
   | (with_reducible refine LeO.bind ?_ (fun _ => ?_))
   | exact ih0 _ _ _ _ _ _ _ _
   | exact ih1 _ _ _ _ _ _ _ _ _ _ _
   | exact LeO.none _
   | refine LeO.ite ?_ ?_
   | refine LeO.bind ?_ (fun _ => ?_)
theorem morphology_plane_sums.mono : ∀ a0 a1 a2 a3 a4 k, LeO (morphology_plane_sums.f k a0 a1 a2 a3 a4) (morphology_plane_sums.f (k + 1) a0 a1 a2 a3 a4) := by
 intro a0 a1 a2 a3 a4 k
 obtain ⟨ih0, ih1⟩ := morphology_plane_sums.mono_l k
 unfold morphology_plane_sums.f
 repeat' first
   | (with_reducible exact ih0 _ _ _ _ _ _ _ _)
   | (with_reducible exact ih1 _ _ _ _ _ _ _ _ _ _ _)
   | (with_reducible exact LeO.refl _)
   | (with_reducible exact LeO.none _)
   | (with_reducible refine LeO.ite ?_ ?_)
   | (with_reducible refine LeO.bind ?_ (fun _ => ?_))
   | exact ih0 _ _ _ _ _ _ _ _
   | exact ih1 _ _ _ _ _ _ _ _ _ _ _
   | exact LeO.none _
   | refine LeO.ite ?_ ?_
   | refine LeO.bind ?_ (fun _ => ?_)
def morphology_plane_sums.T12 : Bool × List (List Nat × List Nat) := (true, [([], []), ([], []), ([], []), ([], []), ([], []), ([4], [4]), ([3, 5], [3, 5]), ([6], [6]), ([2, 7], [2, 7]), ([], []), ([], []), ([], []), ([11], [11]), ([10, 12], [10, 12]), ([13], [13]), ([9, 14], [9, 14]), ([15], [15]), ([8, 16], [8, 16]), ([], []), ([], []), ([], []), ([20], [20]), ([19, 21], [19, 21]), ([22], [22]), ([18, 23], [18, 23]), ([24], [24]), ([17, 25], [17, 25]), ([0, 1, 0, 1, 2, 3, 4, 5, 6, 7, 8, 9, 10, 11, 12, 13, 14, 15, 16, 17, 18, 19, 20, 21, 22, 23, 24, 25, 26], [0, 1]), ([27, 26, 0, 1, 2, 3, 4, 5, 6, 7, 8, 9, 10, 11, 12, 13, 14, 15, 16, 17, 18, 19, 20, 21, 22, 23, 24, 25, 26], [26, 27])])
def morphology_plane_sums.B12 : List Nat := [0, 0, 0, 0, 0, 16, 56, 120, 252, 0, 0, 0, 2048, 7168, 15360, 32256, 65024, 131068, 0, 0, 0, 1048576, 3670016, 7864320, 16515072, 33292288, 67108860, 134217727, 268435455]
theorem morphology_plane_sums.tab12 : rtab .any (opsOf Try.f51 12) = morphology_plane_sums.T12 := by kernel_rfl
theorem morphology_plane_sums.bits12 : waitsOk morphology_plane_sums.T12.2 morphology_plane_sums.B12 = true := by kernel_rfl
set_option maxHeartbeats 8000000 in
set_option maxRecDepth 100000 in
theorem morphology_plane_sums.calls (k : Nat) (a0_0 : Int) (a0_1 : Int) (a0_2 : Int) (a0_3 : Int) (A0_4 : Option Addr) (c0_4 : Nat) (l0_4 : List Bool) (r : List Int) (w : World) (hr0_4 : Kd.C Kd.bool w A0_4 l0_4.length l0_4) (hc0_4 : l0_4.length ≤ c0_4) (h : morphology_plane_sums.f k a0_0 a0_1 a0_2 a0_3 l0_4 = some r) :
  Calls Try.prog 51 #[.agg #[.int .i64 a0_0, .int .i64 a0_1, .int .i64 a0_2, .int .i64 a0_3, .slice A0_4 l0_4.length c0_4]] w fun e w' => ∃ v0_ : Value, e = .returned (v0_) ∧ Kd.R (Kd.int .i64) 3 w' w.heap.size (fun _ => True) v0_ r ∧ Below w.heap.size w w' := by
 have hu50 := Try.underlying50
 have HR0_4 := Aside0.mk hr0_4
 have HC0_4 := Aside0.mk hc0_4
 clear hr0_4 hc0_4
 have HB := Aside0.mk (Below.refl w.heap.size w)
 have H : (if 0 ≤ (wrap64 ((wrap64 (a0_0 + 1)) * (wrap64 (a0_1 + 1)))) then (if (wrap64 ((wrap64 (a0_0 + 1)) * (wrap64 (a0_1 + 1))) : Int).toNat ≤ 35184372088832 then (morphology_plane_sums.l0 k (List.replicate (wrap64 ((wrap64 (a0_0 + 1)) * (wrap64 (a0_1 + 1))) : Int).toNat 0) a0_1 0 a0_0 a0_1 a0_2 a0_3 l0_4) else (none)) else (none)) = some r := h
 clear h
 obtain ⟨ji2, hji2⟩ : ∃ j_ : Int, (wrap64 ((wrap64 (a0_0 + 1)) * (wrap64 (a0_1 + 1)))) = j_ := ⟨_, rfl⟩
 replace H : (if 0 ≤ (ji2) then (if (ji2 : Int).toNat ≤ 35184372088832 then (morphology_plane_sums.l0 k (List.replicate (ji2 : Int).toNat 0) a0_1 0 a0_0 a0_1 a0_2 a0_3 l0_4) else (none)) else (none)) = some r := by first | (rw [hji2] at H; exact H) | (simp only [hji2] at H ⊢; exact H)
 have hji2w : (IntKind.i64.wrap ((wrap64 (a0_0 + 1)) * (wrap64 (a0_1 + 1)))) = ji2 := (i64_w _).trans hji2
 by_cases c3 : 0 ≤ (ji2)
 ·rw [if_pos c3] at H
  have c3b0 := eq_true c3
  have c3b1 : decide (0 ≤ (ji2)) = true := decide_eq_true c3
  clear c3
  by_cases c4 : (ji2 : Int).toNat ≤ 35184372088832
  ·rw [if_pos c4] at H
   have c4b0 := eq_true c4
   have c4b1 : decide ((ji2 : Int).toNat ≤ 35184372088832) = true := decide_eq_true c4
   clear c4
   obtain ⟨y122, hy122⟩ : ∃ y_ : List Int, y_ = (List.replicate (ji2 : Int).toNat 0) := ⟨_, rfl⟩
   replace H : (morphology_plane_sums.l0 k y122 a0_1 0 a0_0 a0_1 a0_2 a0_3 l0_4) = some r := by first | (rw [hy122]; with_reducible exact H) | (have H2_ := (Option.bind_some _ _).symm.trans H; rw [hy122]; with_reducible exact H2_) | (have H2_ := (Option.bind_some _ _).symm.trans H; with_reducible exact H2_) | with_reducible exact H | (rw [hy122]; exact H) | exact H
   have Ny122 := Aside0.mk hy122
   clear hy122
   have H' := Aside0.mk H
   clear H
   go_enter Try.func51, Try.ntmps51
   go_wp2_with (first | ((with_reducible refine gate_dst (N := 1) rfl ?_); refine box_event ?hg (N := 1) ?hd (cs := #[.int .i64 a0_0, .int .i64 a0_1, .int .i64 a0_2, .int .i64 a0_3, .slice A0_4 l0_4.length c0_4]) (t := 50) ?hr ?_; (case hd => rfl); (case hg => rfl); (case hr => first | (go_simp; done) | (go_simp; rfl)); intro gb121 hg w5 hbox hb; have n0_ := Aside0.mk (below_step (hb0 HB) hb); have n1_ := Aside0.mk (hbox); have n2_ := Aside0.mk ((by rw [hg]; exact (below_size (hb0 HB)) : w.heap.size ≤ gb121)); have n3_ := Aside0.mk ((by rw [hg]; exact (below_size (hb0 HB)) : w.heap.size ≤ gb121)); clear HB; have HB := n0_; have BK121 := n1_; have GW121 := n2_; have GE121 := n3_; clear n0_ n1_ n2_ n3_; clear hb hbox hg; have hcz6_0 : w5.cell? ⟨gb121, 0, none⟩ = some (.int .i64 a0_0) := (blk_cell BK121.out 0).trans rfl; have hcz6_1 : w5.cell? ⟨gb121, 1, none⟩ = some (.int .i64 a0_1) := (blk_cell BK121.out 1).trans rfl; have hcz6_2 : w5.cell? ⟨gb121, 2, none⟩ = some (.int .i64 a0_2) := (blk_cell BK121.out 2).trans rfl; have hcz6_3 : w5.cell? ⟨gb121, 3, none⟩ = some (.int .i64 a0_3) := (blk_cell BK121.out 3).trans rfl; have hcz6_4 : w5.cell? ⟨gb121, 4, none⟩ = some (.slice A0_4 l0_4.length c0_4) := (blk_cell BK121.out 4).trans rfl; have hfz6_0 := blk_frozen BK121.out 0; have hfz6_1 := blk_frozen BK121.out 1; have hfz6_2 := blk_frozen BK121.out 2; have hfz6_3 := blk_frozen BK121.out 3; have hfz6_4 := blk_frozen BK121.out 4) | ((with_reducible refine gate_dst (N := 15) rfl ?_); refine Kd.R_make (Kd.int .i64) _ 3 rfl (N := 15) rfl 63 _ _ rfl ji2 rfl rfl Try.underlying63 (.int .i64 0) 8 info3 rfl (by decide) (by omega) 0 (ok := fun _ => True) (okp := fun _ => True) rfl (fun _ hk => hk) trivial (of_decide_eq_true (by first | (with_reducible assumption) | assumption)) (Nat.le_trans (Nat.mul_le_mul_right _ (of_decide_eq_true (by first | (with_reducible assumption) | assumption) : ji2.toNat ≤ 35184372088832)) (by omega)) (Below.refl _ _) (Nat.le_refl _) ?_; intro v123 w7 ho8 hb hg_ hnew_; clear hg_ hnew_; (first | rw [← Ny122.out] at ho8 | (simp only [Int.reduceToNat] at ho8; rw [← Ny122.out] at ho8)); have n0_ := Aside0.mk (Kd.R_lower ho8 (below_size (hb1 HB GE121))); have n1_ := Aside0.mk (blk_below (bkx BK121) hb); have n2_ := Aside0.mk (below_step (hb1 HB GE121) hb); clear BK121; clear HB; have HO124 := n0_; have BK121 := n1_; have HB := n2_; clear n0_ n1_ n2_; clear hb ho8; have hcz9_0 : w7.cell? ⟨gb121, 0, none⟩ = some (.int .i64 a0_0) := (blk_cell BK121.out 0).trans rfl; have hcz9_1 : w7.cell? ⟨gb121, 1, none⟩ = some (.int .i64 a0_1) := (blk_cell BK121.out 1).trans rfl; have hcz9_2 : w7.cell? ⟨gb121, 2, none⟩ = some (.int .i64 a0_2) := (blk_cell BK121.out 2).trans rfl; have hcz9_3 : w7.cell? ⟨gb121, 3, none⟩ = some (.int .i64 a0_3) := (blk_cell BK121.out 3).trans rfl; have hcz9_4 : w7.cell? ⟨gb121, 4, none⟩ = some (.slice A0_4 l0_4.length c0_4) := (blk_cell BK121.out 4).trans rfl; have hfz9_0 := blk_frozen BK121.out 0; have hfz9_1 := blk_frozen BK121.out 1; have hfz9_2 := blk_frozen BK121.out 2; have hfz9_3 := blk_frozen BK121.out 3; have hfz9_4 := blk_frozen BK121.out 4))
   go_loopg [18] k (fun kq v18 w' => ∃ (x3_1 : List Int) (x18_1 : Int), v18 = .int .i64 x18_1 ∧ Aside0 (morphology_plane_sums.l0 kq x3_1 a0_1 x18_1 a0_0 a0_1 a0_2 a0_3 l0_4 = some r) ∧ Aside0 (kq ≤ k) ∧ Aside0 (Kd.R (Kd.int .i64) 3 w' w.heap.size (fun _ => True) v123 x3_1) ∧ Aside0 (w'.heap[gb121]? = some (.cells #[.int .i64 a0_0, .int .i64 a0_1, .int .i64 a0_2, .int .i64 a0_3, (.slice A0_4 l0_4.length c0_4)] 50 (0, 0))) ∧ Aside0 (Below w.heap.size w w'))
   case atStart => exact ⟨(y122), (0), (by first | rfl | (simp; done) | (simp [*]; done)), H', ⟨Nat.le_refl _⟩, ⟨rkx HO124⟩, ⟨bkx BK121⟩, ⟨hb1 HB GE121⟩⟩
   case round =>
    clear H'
    try clear p2
    try clear c3
    try clear c3b0
    try clear c3b1
    try clear c4
    try clear c4b0
    try clear c4b1
    try clear c5
    try clear p6
    try clear hcz6_0
    try clear hcz6_1
    try clear hcz6_2
    try clear hcz6_3
    try clear hcz6_4
    try clear hcz9_0
    try clear hcz9_1
    try clear hcz9_2
    try clear hcz9_3
    try clear hcz9_4
    try clear hfz6_0
    try clear hfz6_1
    try clear hfz6_2
    try clear hfz6_3
    try clear hfz6_4
    try clear hfz9_0
    try clear hfz9_1
    try clear hfz9_2
    try clear hfz9_3
    try clear hfz9_4
    obtain ⟨x3_1, x18_1, rfl, HA, HK1, HO_3, BK121, HB⟩ := hrel
    cases gk with
    | zero => exact absurd HA.out (by simp [morphology_plane_sums.l0])
    | succ k1 =>
     have H := HA.out
     clear HA
     simp only [morphology_plane_sums.l0] at H
     by_cases c10 : x18_1 < a0_1
     ·rw [if_pos c10] at H
      have c10b0 : decide (x18_1 < a0_1) = true := decide_eq_true c10
      clear c10
      have H' := Aside0.mk H
      clear H
      have hcz11_0 : wr.cell? ⟨gb121, 0, none⟩ = some (.int .i64 a0_0) := (blk_cell BK121.out 0).trans rfl
      have hcz11_1 : wr.cell? ⟨gb121, 1, none⟩ = some (.int .i64 a0_1) := (blk_cell BK121.out 1).trans rfl
      have hcz11_2 : wr.cell? ⟨gb121, 2, none⟩ = some (.int .i64 a0_2) := (blk_cell BK121.out 2).trans rfl
      have hcz11_3 : wr.cell? ⟨gb121, 3, none⟩ = some (.int .i64 a0_3) := (blk_cell BK121.out 3).trans rfl
      have hcz11_4 : wr.cell? ⟨gb121, 4, none⟩ = some (.slice A0_4 l0_4.length c0_4) := (blk_cell BK121.out 4).trans rfl
      have hfz11_0 := blk_frozen BK121.out 0
      have hfz11_1 := blk_frozen BK121.out 1
      have hfz11_2 := blk_frozen BK121.out 2
      have hfz11_3 := blk_frozen BK121.out 3
      have hfz11_4 := blk_frozen BK121.out 4
      go_wp2
      go_loopg [23] k1 (fun kq v23 w' => ∃ (x3_2 : List Int) (x23_2 : Int), v23 = .int .i64 x23_2 ∧ Aside0 (morphology_plane_sums.l1 kq x3_2 x18_1 a0_1 x18_1 a0_0 x23_2 a0_0 a0_1 a0_2 a0_3 l0_4 = some r) ∧ Aside0 (kq ≤ k1) ∧ Aside0 (Kd.R (Kd.int .i64) 3 w' w.heap.size (fun _ => True) v123 x3_2) ∧ Aside0 (w'.heap[gb121]? = some (.cells #[.int .i64 a0_0, .int .i64 a0_1, .int .i64 a0_2, .int .i64 a0_3, (.slice A0_4 l0_4.length c0_4)] 50 (0, 0))) ∧ Aside0 (Below w.heap.size w w'))
      case atStart => exact ⟨(x3_1), (0), (by first | rfl | (simp; done) | (simp [*]; done)), H', ⟨Nat.le_refl _⟩, ⟨rkx HO_3⟩, ⟨bkx BK121⟩, ⟨hb1 HB GE121⟩⟩
      case round =>
       clear H'
       try clear c1
       try clear p2
       try clear c3
       try clear c3b0
       try clear c3b1
       try clear c4
       try clear c4b0
       try clear c4b1
       try clear c5
       try clear p6
       try clear c10
       try clear c10b0
       try clear hcz11_0
       try clear hcz11_1
       try clear hcz11_2
       try clear hcz11_3
       try clear hcz11_4
       try clear hcz6_0
       try clear hcz6_1
       try clear hcz6_2
       try clear hcz6_3
       try clear hcz6_4
       try clear hcz9_0
       try clear hcz9_1
       try clear hcz9_2
       try clear hcz9_3
       try clear hcz9_4
       try clear hfz11_0
       try clear hfz11_1
       try clear hfz11_2
       try clear hfz11_3
       try clear hfz11_4
       try clear hfz6_0
       try clear hfz6_1
       try clear hfz6_2
       try clear hfz6_3
       try clear hfz6_4
       try clear hfz9_0
       try clear hfz9_1
       try clear hfz9_2
       try clear hfz9_3
       try clear hfz9_4
       try clear p2
       try clear p6
       obtain ⟨x3_2, x23_2, rfl, HA, HK2, HO_3, BK121, HB⟩ := hrel
       cases gk with
       | zero => exact absurd HA.out (by simp [morphology_plane_sums.l1])
       | succ k2 =>
        have H := HA.out
        clear HA
        simp only [morphology_plane_sums.l1] at H
        by_cases c12 : x23_2 < a0_0
        ·rw [if_pos c12] at H
         have c12b0 : decide (x23_2 < a0_0) = true := decide_eq_true c12
         clear c12
         obtain ⟨ji13, hji13⟩ : ∃ j_ : Int, (wrap64 ((wrap64 (x18_1 * a0_0)) + x23_2)) = j_ := ⟨_, rfl⟩
         replace H : (if 0 ≤ (ji13) then (if (ji13) < (l0_4.length : Int) then (if rdOf false l0_4 (ji13) = true then (if 0 ≤ (wrap64 ((wrap64 ((wrap64 ((wrap64 ((wrap64 (x18_1 + 1)) * (wrap64 (a0_0 + 1)))) + x23_2)) + 1)) - 1)) then (if (wrap64 ((wrap64 ((wrap64 ((wrap64 ((wrap64 (x18_1 + 1)) * (wrap64 (a0_0 + 1)))) + x23_2)) + 1)) - 1)) < (x3_2.length : Int) then (if 0 ≤ (wrap64 ((wrap64 ((wrap64 ((wrap64 ((wrap64 ((wrap64 (x18_1 + 1)) * (wrap64 (a0_0 + 1)))) + x23_2)) + 1)) - a0_0)) - 1)) then (if (wrap64 ((wrap64 ((wrap64 ((wrap64 ((wrap64 ((wrap64 (x18_1 + 1)) * (wrap64 (a0_0 + 1)))) + x23_2)) + 1)) - a0_0)) - 1)) < (x3_2.length : Int) then (if 0 ≤ (wrap64 ((wrap64 ((wrap64 ((wrap64 ((wrap64 ((wrap64 (x18_1 + 1)) * (wrap64 (a0_0 + 1)))) + x23_2)) + 1)) - a0_0)) - 2)) then (if (wrap64 ((wrap64 ((wrap64 ((wrap64 ((wrap64 ((wrap64 (x18_1 + 1)) * (wrap64 (a0_0 + 1)))) + x23_2)) + 1)) - a0_0)) - 2)) < (x3_2.length : Int) then (if 0 ≤ (wrap64 ((wrap64 ((wrap64 ((wrap64 (x18_1 + 1)) * (wrap64 (a0_0 + 1)))) + x23_2)) + 1)) then (if (wrap64 ((wrap64 ((wrap64 ((wrap64 (x18_1 + 1)) * (wrap64 (a0_0 + 1)))) + x23_2)) + 1)) < (x3_2.length : Int) then (morphology_plane_sums.l1 k2 (x3_2.set ((wrap64 ((wrap64 ((wrap64 ((wrap64 (x18_1 + 1)) * (wrap64 (a0_0 + 1)))) + x23_2)) + 1)) : Int).toNat (wrap64 ((wrap64 ((wrap64 (1 + (rd x3_2 (wrap64 ((wrap64 ((wrap64 ((wrap64 ((wrap64 (x18_1 + 1)) * (wrap64 (a0_0 + 1)))) + x23_2)) + 1)) - 1))))) + (rd x3_2 (wrap64 ((wrap64 ((wrap64 ((wrap64 ((wrap64 ((wrap64 (x18_1 + 1)) * (wrap64 (a0_0 + 1)))) + x23_2)) + 1)) - a0_0)) - 1))))) - (rd x3_2 (wrap64 ((wrap64 ((wrap64 ((wrap64 ((wrap64 ((wrap64 (x18_1 + 1)) * (wrap64 (a0_0 + 1)))) + x23_2)) + 1)) - a0_0)) - 2)))))) x18_1 a0_1 x18_1 a0_0 (wrap64 (x23_2 + 1)) a0_0 a0_1 a0_2 a0_3 l0_4) else (none)) else (none)) else (none)) else (none)) else (none)) else (none)) else (none)) else (none)) else (if 0 ≤ (wrap64 ((wrap64 ((wrap64 ((wrap64 ((wrap64 (x18_1 + 1)) * (wrap64 (a0_0 + 1)))) + x23_2)) + 1)) - 1)) then (if (wrap64 ((wrap64 ((wrap64 ((wrap64 ((wrap64 (x18_1 + 1)) * (wrap64 (a0_0 + 1)))) + x23_2)) + 1)) - 1)) < (x3_2.length : Int) then (if 0 ≤ (wrap64 ((wrap64 ((wrap64 ((wrap64 ((wrap64 ((wrap64 (x18_1 + 1)) * (wrap64 (a0_0 + 1)))) + x23_2)) + 1)) - a0_0)) - 1)) then (if (wrap64 ((wrap64 ((wrap64 ((wrap64 ((wrap64 ((wrap64 (x18_1 + 1)) * (wrap64 (a0_0 + 1)))) + x23_2)) + 1)) - a0_0)) - 1)) < (x3_2.length : Int) then (if 0 ≤ (wrap64 ((wrap64 ((wrap64 ((wrap64 ((wrap64 ((wrap64 (x18_1 + 1)) * (wrap64 (a0_0 + 1)))) + x23_2)) + 1)) - a0_0)) - 2)) then (if (wrap64 ((wrap64 ((wrap64 ((wrap64 ((wrap64 ((wrap64 (x18_1 + 1)) * (wrap64 (a0_0 + 1)))) + x23_2)) + 1)) - a0_0)) - 2)) < (x3_2.length : Int) then (if 0 ≤ (wrap64 ((wrap64 ((wrap64 ((wrap64 (x18_1 + 1)) * (wrap64 (a0_0 + 1)))) + x23_2)) + 1)) then (if (wrap64 ((wrap64 ((wrap64 ((wrap64 (x18_1 + 1)) * (wrap64 (a0_0 + 1)))) + x23_2)) + 1)) < (x3_2.length : Int) then (morphology_plane_sums.l1 k2 (x3_2.set ((wrap64 ((wrap64 ((wrap64 ((wrap64 (x18_1 + 1)) * (wrap64 (a0_0 + 1)))) + x23_2)) + 1)) : Int).toNat (wrap64 ((wrap64 ((wrap64 ((rd x3_2 (wrap64 ((wrap64 ((wrap64 ((wrap64 ((wrap64 (x18_1 + 1)) * (wrap64 (a0_0 + 1)))) + x23_2)) + 1)) - 1))))) + (rd x3_2 (wrap64 ((wrap64 ((wrap64 ((wrap64 ((wrap64 ((wrap64 (x18_1 + 1)) * (wrap64 (a0_0 + 1)))) + x23_2)) + 1)) - a0_0)) - 1))))) - (rd x3_2 (wrap64 ((wrap64 ((wrap64 ((wrap64 ((wrap64 ((wrap64 (x18_1 + 1)) * (wrap64 (a0_0 + 1)))) + x23_2)) + 1)) - a0_0)) - 2)))))) x18_1 a0_1 x18_1 a0_0 (wrap64 (x23_2 + 1)) a0_0 a0_1 a0_2 a0_3 l0_4) else (none)) else (none)) else (none)) else (none)) else (none)) else (none)) else (none)) else (none))) else (none)) else (none)) = some r := by first | (rw [hji13] at H; exact H) | (simp only [hji13] at H ⊢; exact H)
         have hji13w : (IntKind.i64.wrap ((wrap64 (x18_1 * a0_0)) + x23_2)) = ji13 := (i64_w _).trans hji13
         by_cases c14 : 0 ≤ (ji13)
         ·rw [if_pos c14] at H
          have c14b0 : decide (0 ≤ (ji13)) = true := decide_eq_true c14
          clear c14
          by_cases c15 : (ji13) < (l0_4.length : Int)
          ·rw [if_pos c15] at H
           have c15b0 : decide ((ji13) < (l0_4.length : Int)) = true := decide_eq_true c15
           clear c15
           obtain ⟨bq16, hbq16⟩ : ∃ b_ : Bool, b_ = (rdOf false l0_4 (ji13)) := ⟨_, rfl⟩
           replace H : (if bq16 = true then (if 0 ≤ (wrap64 ((wrap64 ((wrap64 ((wrap64 ((wrap64 (x18_1 + 1)) * (wrap64 (a0_0 + 1)))) + x23_2)) + 1)) - 1)) then (if (wrap64 ((wrap64 ((wrap64 ((wrap64 ((wrap64 (x18_1 + 1)) * (wrap64 (a0_0 + 1)))) + x23_2)) + 1)) - 1)) < (x3_2.length : Int) then (if 0 ≤ (wrap64 ((wrap64 ((wrap64 ((wrap64 ((wrap64 ((wrap64 (x18_1 + 1)) * (wrap64 (a0_0 + 1)))) + x23_2)) + 1)) - a0_0)) - 1)) then (if (wrap64 ((wrap64 ((wrap64 ((wrap64 ((wrap64 ((wrap64 (x18_1 + 1)) * (wrap64 (a0_0 + 1)))) + x23_2)) + 1)) - a0_0)) - 1)) < (x3_2.length : Int) then (if 0 ≤ (wrap64 ((wrap64 ((wrap64 ((wrap64 ((wrap64 ((wrap64 (x18_1 + 1)) * (wrap64 (a0_0 + 1)))) + x23_2)) + 1)) - a0_0)) - 2)) then (if (wrap64 ((wrap64 ((wrap64 ((wrap64 ((wrap64 ((wrap64 (x18_1 + 1)) * (wrap64 (a0_0 + 1)))) + x23_2)) + 1)) - a0_0)) - 2)) < (x3_2.length : Int) then (if 0 ≤ (wrap64 ((wrap64 ((wrap64 ((wrap64 (x18_1 + 1)) * (wrap64 (a0_0 + 1)))) + x23_2)) + 1)) then (if (wrap64 ((wrap64 ((wrap64 ((wrap64 (x18_1 + 1)) * (wrap64 (a0_0 + 1)))) + x23_2)) + 1)) < (x3_2.length : Int) then (morphology_plane_sums.l1 k2 (x3_2.set ((wrap64 ((wrap64 ((wrap64 ((wrap64 (x18_1 + 1)) * (wrap64 (a0_0 + 1)))) + x23_2)) + 1)) : Int).toNat (wrap64 ((wrap64 ((wrap64 (1 + (rd x3_2 (wrap64 ((wrap64 ((wrap64 ((wrap64 ((wrap64 (x18_1 + 1)) * (wrap64 (a0_0 + 1)))) + x23_2)) + 1)) - 1))))) + (rd x3_2 (wrap64 ((wrap64 ((wrap64 ((wrap64 ((wrap64 ((wrap64 (x18_1 + 1)) * (wrap64 (a0_0 + 1)))) + x23_2)) + 1)) - a0_0)) - 1))))) - (rd x3_2 (wrap64 ((wrap64 ((wrap64 ((wrap64 ((wrap64 ((wrap64 (x18_1 + 1)) * (wrap64 (a0_0 + 1)))) + x23_2)) + 1)) - a0_0)) - 2)))))) x18_1 a0_1 x18_1 a0_0 (wrap64 (x23_2 + 1)) a0_0 a0_1 a0_2 a0_3 l0_4) else (none)) else (none)) else (none)) else (none)) else (none)) else (none)) else (none)) else (none)) else (if 0 ≤ (wrap64 ((wrap64 ((wrap64 ((wrap64 ((wrap64 (x18_1 + 1)) * (wrap64 (a0_0 + 1)))) + x23_2)) + 1)) - 1)) then (if (wrap64 ((wrap64 ((wrap64 ((wrap64 ((wrap64 (x18_1 + 1)) * (wrap64 (a0_0 + 1)))) + x23_2)) + 1)) - 1)) < (x3_2.length : Int) then (if 0 ≤ (wrap64 ((wrap64 ((wrap64 ((wrap64 ((wrap64 ((wrap64 (x18_1 + 1)) * (wrap64 (a0_0 + 1)))) + x23_2)) + 1)) - a0_0)) - 1)) then (if (wrap64 ((wrap64 ((wrap64 ((wrap64 ((wrap64 ((wrap64 (x18_1 + 1)) * (wrap64 (a0_0 + 1)))) + x23_2)) + 1)) - a0_0)) - 1)) < (x3_2.length : Int) then (if 0 ≤ (wrap64 ((wrap64 ((wrap64 ((wrap64 ((wrap64 ((wrap64 (x18_1 + 1)) * (wrap64 (a0_0 + 1)))) + x23_2)) + 1)) - a0_0)) - 2)) then (if (wrap64 ((wrap64 ((wrap64 ((wrap64 ((wrap64 ((wrap64 (x18_1 + 1)) * (wrap64 (a0_0 + 1)))) + x23_2)) + 1)) - a0_0)) - 2)) < (x3_2.length : Int) then (if 0 ≤ (wrap64 ((wrap64 ((wrap64 ((wrap64 (x18_1 + 1)) * (wrap64 (a0_0 + 1)))) + x23_2)) + 1)) then (if (wrap64 ((wrap64 ((wrap64 ((wrap64 (x18_1 + 1)) * (wrap64 (a0_0 + 1)))) + x23_2)) + 1)) < (x3_2.length : Int) then (morphology_plane_sums.l1 k2 (x3_2.set ((wrap64 ((wrap64 ((wrap64 ((wrap64 (x18_1 + 1)) * (wrap64 (a0_0 + 1)))) + x23_2)) + 1)) : Int).toNat (wrap64 ((wrap64 ((wrap64 ((rd x3_2 (wrap64 ((wrap64 ((wrap64 ((wrap64 ((wrap64 (x18_1 + 1)) * (wrap64 (a0_0 + 1)))) + x23_2)) + 1)) - 1))))) + (rd x3_2 (wrap64 ((wrap64 ((wrap64 ((wrap64 ((wrap64 ((wrap64 (x18_1 + 1)) * (wrap64 (a0_0 + 1)))) + x23_2)) + 1)) - a0_0)) - 1))))) - (rd x3_2 (wrap64 ((wrap64 ((wrap64 ((wrap64 ((wrap64 ((wrap64 (x18_1 + 1)) * (wrap64 (a0_0 + 1)))) + x23_2)) + 1)) - a0_0)) - 2)))))) x18_1 a0_1 x18_1 a0_0 (wrap64 (x23_2 + 1)) a0_0 a0_1 a0_2 a0_3 l0_4) else (none)) else (none)) else (none)) else (none)) else (none)) else (none)) else (none)) else (none))) = some r := by rw [← hbq16] at H; exact H
           have Nbq16 := Aside0.mk hbq16
           clear hbq16
           by_cases c17 : bq16 = true
           ·subst c17
            have H1 : (if 0 ≤ (wrap64 ((wrap64 ((wrap64 ((wrap64 ((wrap64 (x18_1 + 1)) * (wrap64 (a0_0 + 1)))) + x23_2)) + 1)) - 1)) then (if (wrap64 ((wrap64 ((wrap64 ((wrap64 ((wrap64 (x18_1 + 1)) * (wrap64 (a0_0 + 1)))) + x23_2)) + 1)) - 1)) < (x3_2.length : Int) then (if 0 ≤ (wrap64 ((wrap64 ((wrap64 ((wrap64 ((wrap64 ((wrap64 (x18_1 + 1)) * (wrap64 (a0_0 + 1)))) + x23_2)) + 1)) - a0_0)) - 1)) then (if (wrap64 ((wrap64 ((wrap64 ((wrap64 ((wrap64 ((wrap64 (x18_1 + 1)) * (wrap64 (a0_0 + 1)))) + x23_2)) + 1)) - a0_0)) - 1)) < (x3_2.length : Int) then (if 0 ≤ (wrap64 ((wrap64 ((wrap64 ((wrap64 ((wrap64 ((wrap64 (x18_1 + 1)) * (wrap64 (a0_0 + 1)))) + x23_2)) + 1)) - a0_0)) - 2)) then (if (wrap64 ((wrap64 ((wrap64 ((wrap64 ((wrap64 ((wrap64 (x18_1 + 1)) * (wrap64 (a0_0 + 1)))) + x23_2)) + 1)) - a0_0)) - 2)) < (x3_2.length : Int) then (if 0 ≤ (wrap64 ((wrap64 ((wrap64 ((wrap64 (x18_1 + 1)) * (wrap64 (a0_0 + 1)))) + x23_2)) + 1)) then (if (wrap64 ((wrap64 ((wrap64 ((wrap64 (x18_1 + 1)) * (wrap64 (a0_0 + 1)))) + x23_2)) + 1)) < (x3_2.length : Int) then (morphology_plane_sums.l1 k2 (x3_2.set ((wrap64 ((wrap64 ((wrap64 ((wrap64 (x18_1 + 1)) * (wrap64 (a0_0 + 1)))) + x23_2)) + 1)) : Int).toNat (wrap64 ((wrap64 ((wrap64 (1 + (rd x3_2 (wrap64 ((wrap64 ((wrap64 ((wrap64 ((wrap64 (x18_1 + 1)) * (wrap64 (a0_0 + 1)))) + x23_2)) + 1)) - 1))))) + (rd x3_2 (wrap64 ((wrap64 ((wrap64 ((wrap64 ((wrap64 ((wrap64 (x18_1 + 1)) * (wrap64 (a0_0 + 1)))) + x23_2)) + 1)) - a0_0)) - 1))))) - (rd x3_2 (wrap64 ((wrap64 ((wrap64 ((wrap64 ((wrap64 ((wrap64 (x18_1 + 1)) * (wrap64 (a0_0 + 1)))) + x23_2)) + 1)) - a0_0)) - 2)))))) x18_1 a0_1 x18_1 a0_0 (wrap64 (x23_2 + 1)) a0_0 a0_1 a0_2 a0_3 l0_4) else (none)) else (none)) else (none)) else (none)) else (none)) else (none)) else (none)) else (none)) = some r := by rw [if_pos rfl] at H; exact H
            clear H
            have H := H1
            clear H1
            obtain ⟨ji18, hji18⟩ : ∃ j_ : Int, (wrap64 ((wrap64 ((wrap64 ((wrap64 ((wrap64 (x18_1 + 1)) * (wrap64 (a0_0 + 1)))) + x23_2)) + 1)) - 1)) = j_ := ⟨_, rfl⟩
            replace H : (if 0 ≤ (ji18) then (if (ji18) < (x3_2.length : Int) then (if 0 ≤ (wrap64 ((wrap64 ((wrap64 ((wrap64 ((wrap64 ((wrap64 (x18_1 + 1)) * (wrap64 (a0_0 + 1)))) + x23_2)) + 1)) - a0_0)) - 1)) then (if (wrap64 ((wrap64 ((wrap64 ((wrap64 ((wrap64 ((wrap64 (x18_1 + 1)) * (wrap64 (a0_0 + 1)))) + x23_2)) + 1)) - a0_0)) - 1)) < (x3_2.length : Int) then (if 0 ≤ (wrap64 ((wrap64 ((wrap64 ((wrap64 ((wrap64 ((wrap64 (x18_1 + 1)) * (wrap64 (a0_0 + 1)))) + x23_2)) + 1)) - a0_0)) - 2)) then (if (wrap64 ((wrap64 ((wrap64 ((wrap64 ((wrap64 ((wrap64 (x18_1 + 1)) * (wrap64 (a0_0 + 1)))) + x23_2)) + 1)) - a0_0)) - 2)) < (x3_2.length : Int) then (if 0 ≤ (wrap64 ((wrap64 ((wrap64 ((wrap64 (x18_1 + 1)) * (wrap64 (a0_0 + 1)))) + x23_2)) + 1)) then (if (wrap64 ((wrap64 ((wrap64 ((wrap64 (x18_1 + 1)) * (wrap64 (a0_0 + 1)))) + x23_2)) + 1)) < (x3_2.length : Int) then (morphology_plane_sums.l1 k2 (x3_2.set ((wrap64 ((wrap64 ((wrap64 ((wrap64 (x18_1 + 1)) * (wrap64 (a0_0 + 1)))) + x23_2)) + 1)) : Int).toNat (wrap64 ((wrap64 ((wrap64 (1 + (rd x3_2 (ji18)))) + (rd x3_2 (wrap64 ((wrap64 ((wrap64 ((wrap64 ((wrap64 ((wrap64 (x18_1 + 1)) * (wrap64 (a0_0 + 1)))) + x23_2)) + 1)) - a0_0)) - 1))))) - (rd x3_2 (wrap64 ((wrap64 ((wrap64 ((wrap64 ((wrap64 ((wrap64 (x18_1 + 1)) * (wrap64 (a0_0 + 1)))) + x23_2)) + 1)) - a0_0)) - 2)))))) x18_1 a0_1 x18_1 a0_0 (wrap64 (x23_2 + 1)) a0_0 a0_1 a0_2 a0_3 l0_4) else (none)) else (none)) else (none)) else (none)) else (none)) else (none)) else (none)) else (none)) = some r := by first | (rw [hji18] at H; exact H) | (simp only [hji18] at H ⊢; exact H)
            have hji18w : (IntKind.i64.wrap ((wrap64 ((wrap64 ((wrap64 ((wrap64 (x18_1 + 1)) * (wrap64 (a0_0 + 1)))) + x23_2)) + 1)) - 1)) = ji18 := (i64_w _).trans hji18
            by_cases c19 : 0 ≤ (ji18)
            ·rw [if_pos c19] at H
             have c19b0 : decide (0 ≤ (ji18)) = true := decide_eq_true c19
             clear c19
             by_cases c20 : (ji18) < (x3_2.length : Int)
             ·rw [if_pos c20] at H
              have c20b0 : decide ((ji18) < (x3_2.length : Int)) = true := decide_eq_true c20
              clear c20
              obtain ⟨ji21, hji21⟩ : ∃ j_ : Int, (wrap64 ((wrap64 ((wrap64 ((wrap64 ((wrap64 ((wrap64 (x18_1 + 1)) * (wrap64 (a0_0 + 1)))) + x23_2)) + 1)) - a0_0)) - 1)) = j_ := ⟨_, rfl⟩
              replace H : (if 0 ≤ (ji21) then (if (ji21) < (x3_2.length : Int) then (if 0 ≤ (wrap64 ((wrap64 ((wrap64 ((wrap64 ((wrap64 ((wrap64 (x18_1 + 1)) * (wrap64 (a0_0 + 1)))) + x23_2)) + 1)) - a0_0)) - 2)) then (if (wrap64 ((wrap64 ((wrap64 ((wrap64 ((wrap64 ((wrap64 (x18_1 + 1)) * (wrap64 (a0_0 + 1)))) + x23_2)) + 1)) - a0_0)) - 2)) < (x3_2.length : Int) then (if 0 ≤ (wrap64 ((wrap64 ((wrap64 ((wrap64 (x18_1 + 1)) * (wrap64 (a0_0 + 1)))) + x23_2)) + 1)) then (if (wrap64 ((wrap64 ((wrap64 ((wrap64 (x18_1 + 1)) * (wrap64 (a0_0 + 1)))) + x23_2)) + 1)) < (x3_2.length : Int) then (morphology_plane_sums.l1 k2 (x3_2.set ((wrap64 ((wrap64 ((wrap64 ((wrap64 (x18_1 + 1)) * (wrap64 (a0_0 + 1)))) + x23_2)) + 1)) : Int).toNat (wrap64 ((wrap64 ((wrap64 (1 + (rd x3_2 (ji18)))) + (rd x3_2 (ji21)))) - (rd x3_2 (wrap64 ((wrap64 ((wrap64 ((wrap64 ((wrap64 ((wrap64 (x18_1 + 1)) * (wrap64 (a0_0 + 1)))) + x23_2)) + 1)) - a0_0)) - 2)))))) x18_1 a0_1 x18_1 a0_0 (wrap64 (x23_2 + 1)) a0_0 a0_1 a0_2 a0_3 l0_4) else (none)) else (none)) else (none)) else (none)) else (none)) else (none)) = some r := by first | (rw [hji21] at H; exact H) | (simp only [hji21] at H ⊢; exact H)
              have hji21w : (IntKind.i64.wrap ((wrap64 ((wrap64 ((wrap64 ((wrap64 ((wrap64 (x18_1 + 1)) * (wrap64 (a0_0 + 1)))) + x23_2)) + 1)) - a0_0)) - 1)) = ji21 := (i64_w _).trans hji21
              by_cases c22 : 0 ≤ (ji21)
              ·rw [if_pos c22] at H
               have c22b0 : decide (0 ≤ (ji21)) = true := decide_eq_true c22
               clear c22
               by_cases c23 : (ji21) < (x3_2.length : Int)
               ·rw [if_pos c23] at H
                have c23b0 : decide ((ji21) < (x3_2.length : Int)) = true := decide_eq_true c23
                clear c23
                obtain ⟨ji24, hji24⟩ : ∃ j_ : Int, (wrap64 ((wrap64 ((wrap64 ((wrap64 ((wrap64 ((wrap64 (x18_1 + 1)) * (wrap64 (a0_0 + 1)))) + x23_2)) + 1)) - a0_0)) - 2)) = j_ := ⟨_, rfl⟩
                replace H : (if 0 ≤ (ji24) then (if (ji24) < (x3_2.length : Int) then (if 0 ≤ (wrap64 ((wrap64 ((wrap64 ((wrap64 (x18_1 + 1)) * (wrap64 (a0_0 + 1)))) + x23_2)) + 1)) then (if (wrap64 ((wrap64 ((wrap64 ((wrap64 (x18_1 + 1)) * (wrap64 (a0_0 + 1)))) + x23_2)) + 1)) < (x3_2.length : Int) then (morphology_plane_sums.l1 k2 (x3_2.set ((wrap64 ((wrap64 ((wrap64 ((wrap64 (x18_1 + 1)) * (wrap64 (a0_0 + 1)))) + x23_2)) + 1)) : Int).toNat (wrap64 ((wrap64 ((wrap64 (1 + (rd x3_2 (ji18)))) + (rd x3_2 (ji21)))) - (rd x3_2 (ji24))))) x18_1 a0_1 x18_1 a0_0 (wrap64 (x23_2 + 1)) a0_0 a0_1 a0_2 a0_3 l0_4) else (none)) else (none)) else (none)) else (none)) = some r := by first | (rw [hji24] at H; exact H) | (simp only [hji24] at H ⊢; exact H)
                have hji24w : (IntKind.i64.wrap ((wrap64 ((wrap64 ((wrap64 ((wrap64 ((wrap64 (x18_1 + 1)) * (wrap64 (a0_0 + 1)))) + x23_2)) + 1)) - a0_0)) - 2)) = ji24 := (i64_w _).trans hji24
                by_cases c25 : 0 ≤ (ji24)
                ·rw [if_pos c25] at H
                 have c25b0 : decide (0 ≤ (ji24)) = true := decide_eq_true c25
                 clear c25
                 by_cases c26 : (ji24) < (x3_2.length : Int)
                 ·rw [if_pos c26] at H
                  have c26b0 : decide ((ji24) < (x3_2.length : Int)) = true := decide_eq_true c26
                  clear c26
                  obtain ⟨ji27, hji27⟩ : ∃ j_ : Int, (wrap64 ((wrap64 ((wrap64 ((wrap64 (x18_1 + 1)) * (wrap64 (a0_0 + 1)))) + x23_2)) + 1)) = j_ := ⟨_, rfl⟩
                  replace H : (if 0 ≤ (ji27) then (if (ji27) < (x3_2.length : Int) then (morphology_plane_sums.l1 k2 (x3_2.set ((ji27) : Int).toNat (wrap64 ((wrap64 ((wrap64 (1 + (rd x3_2 (ji18)))) + (rd x3_2 (ji21)))) - (rd x3_2 (ji24))))) x18_1 a0_1 x18_1 a0_0 (wrap64 (x23_2 + 1)) a0_0 a0_1 a0_2 a0_3 l0_4) else (none)) else (none)) = some r := by first | (rw [hji27] at H; exact H) | (simp only [hji27] at H ⊢; exact H)
                  have hji27w : (IntKind.i64.wrap ((wrap64 ((wrap64 ((wrap64 (x18_1 + 1)) * (wrap64 (a0_0 + 1)))) + x23_2)) + 1)) = ji27 := (i64_w _).trans hji27
                  have hji18xji27 : (IntKind.i64.wrap (ji27 - 1)) = ji18 := by rw [← hji27]; exact hji18w
                  have hji18yji27 : wrap64 (ji27 - 1) = ji18 := (i64_w _).symm.trans hji18xji27
                  have hji21xji27 : (IntKind.i64.wrap ((wrap64 (ji27 - a0_0)) - 1)) = ji21 := by rw [← hji27]; exact hji21w
                  have hji21yji27 : wrap64 ((wrap64 (ji27 - a0_0)) - 1) = ji21 := (i64_w _).symm.trans hji21xji27
                  have hji24xji27 : (IntKind.i64.wrap ((wrap64 (ji27 - a0_0)) - 2)) = ji24 := by rw [← hji27]; exact hji24w
                  have hji24yji27 : wrap64 ((wrap64 (ji27 - a0_0)) - 2) = ji24 := (i64_w _).symm.trans hji24xji27
                  by_cases c28 : 0 ≤ (ji27)
                  ·rw [if_pos c28] at H
                   have c28b0 : decide (0 ≤ (ji27)) = true := decide_eq_true c28
                   clear c28
                   by_cases c29 : (ji27) < (x3_2.length : Int)
                   ·rw [if_pos c29] at H
                    have c29b0 : decide ((ji27) < (x3_2.length : Int)) = true := decide_eq_true c29
                    clear c29
                    obtain ⟨y129, hy129⟩ : ∃ y_ : List Int, y_ = (x3_2.set ((ji27) : Int).toNat (wrap64 ((wrap64 ((wrap64 (1 + (rd x3_2 (ji18)))) + (rd x3_2 (ji21)))) - (rd x3_2 (ji24))))) := ⟨_, rfl⟩
                    replace H : (morphology_plane_sums.l1 k2 y129 x18_1 a0_1 x18_1 a0_0 (wrap64 (x23_2 + 1)) a0_0 a0_1 a0_2 a0_3 l0_4) = some r := by first | (rw [hy129]; with_reducible exact H) | (have H2_ := (Option.bind_some _ _).symm.trans H; rw [hy129]; with_reducible exact H2_) | (have H2_ := (Option.bind_some _ _).symm.trans H; with_reducible exact H2_) | with_reducible exact H | (rw [hy129]; exact H) | exact H
                    have Ny129 := Aside0.mk hy129
                    clear hy129
                    have H' := Aside0.mk H
                    clear H
                    have hcz31_0 : wr.cell? ⟨gb121, 0, none⟩ = some (.int .i64 a0_0) := (blk_cell BK121.out 0).trans rfl
                    have hcz31_1 : wr.cell? ⟨gb121, 1, none⟩ = some (.int .i64 a0_1) := (blk_cell BK121.out 1).trans rfl
                    have hcz31_2 : wr.cell? ⟨gb121, 2, none⟩ = some (.int .i64 a0_2) := (blk_cell BK121.out 2).trans rfl
                    have hcz31_3 : wr.cell? ⟨gb121, 3, none⟩ = some (.int .i64 a0_3) := (blk_cell BK121.out 3).trans rfl
                    have hcz31_4 : wr.cell? ⟨gb121, 4, none⟩ = some (.slice A0_4 l0_4.length c0_4) := (blk_cell BK121.out 4).trans rfl
                    have hfz31_0 := blk_frozen BK121.out 0
                    have hfz31_1 := blk_frozen BK121.out 1
                    have hfz31_2 := blk_frozen BK121.out 2
                    have hfz31_3 := blk_frozen BK121.out 3
                    have hfz31_4 := blk_frozen BK121.out 4
                    have p125 : 0 ≤ ((ji13) : Int) := of_decide_eq_true (by first | (with_reducible assumption) | assumption)
                    have q125 : (ji13) < (l0_4.length : Int) := of_decide_eq_true (by first | (with_reducible assumption) | assumption)
                    obtain ⟨ad125, e125, hx125_0⟩ := Kd.at_bool HR0_4.out (ji13) p125 q125
                    (try rw [← Nbq16.out] at hx125_0)
                    cases e125
                    replace hx125_0 := (HB.out.cell (World.block_lt_of_cell? w _ hx125_0)).trans hx125_0
                    replace p125 := eq_true p125
                    replace q125 := eq_true q125
                    try go_wp2
                    have n0_ := Aside0.mk (Kd.R_drew HO_3.out)
                    have n1_ := Aside0.mk (blk_drew BK121.out)
                    have n2_ := Aside0.mk (below_drew1 HB.out)
                    clear HO_3
                    clear BK121
                    clear HB
                    have HO_3 := n0_
                    have BK121 := n1_
                    have HB := n2_
                    clear n0_ n1_ n2_
                    obtain ⟨Ao33, co33, eo33⟩ := Kd.R_slice HO_3.out
                    (first | subst eo33 | (injection eo33 with f1_ f2_ f3_; have f4_ := f1_.symm; have f5_ := f3_.symm; clear f1_ f2_ f3_; subst f4_; subst f5_))
                    have p126 : 0 ≤ ((ji18) : Int) := of_decide_eq_true (by first | (with_reducible assumption) | assumption)
                    have q126 : (ji18) < (x3_2.length : Int) := of_decide_eq_true (by first | (with_reducible assumption) | assumption)
                    obtain ⟨ad126, e126, hx126_0⟩ := Kd.at_int (Kd.R_reads' HO_3.out).2.2 (ji18) p126 q126
                    cases e126
                    replace p126 := eq_true p126
                    replace q126 := eq_true q126
                    have p127 : 0 ≤ ((ji21) : Int) := of_decide_eq_true (by first | (with_reducible assumption) | assumption)
                    have q127 : (ji21) < (x3_2.length : Int) := of_decide_eq_true (by first | (with_reducible assumption) | assumption)
                    obtain ⟨ad127, e127, hx127_0⟩ := Kd.at_int (Kd.R_reads' HO_3.out).2.2 (ji21) p127 q127
                    obtain rfl : ad126 = ad127 := (by injection e127)
                    replace p127 := eq_true p127
                    replace q127 := eq_true q127
                    have p128 : 0 ≤ ((ji24) : Int) := of_decide_eq_true (by first | (with_reducible assumption) | assumption)
                    have q128 : (ji24) < (x3_2.length : Int) := of_decide_eq_true (by first | (with_reducible assumption) | assumption)
                    obtain ⟨ad128, e128, hx128_0⟩ := Kd.at_int (Kd.R_reads' HO_3.out).2.2 (ji24) p128 q128
                    obtain rfl : ad126 = ad128 := (by injection e128)
                    replace p128 := eq_true p128
                    replace q128 := eq_true q128
                    have p30 : 0 ≤ ((ji27) : Int) := of_decide_eq_true (by first | (with_reducible assumption) | assumption)
                    have q30 : ((ji27) : Int) < ((x3_2.length : Int) : Int) := of_decide_eq_true (by first | (with_reducible assumption) | assumption)
                    obtain ⟨go30, co30, eo30, gb30, gl30, cl30, HG30⟩ := Kd.R_form HO_3.out (by omega)
                    (first | cases eo30 | (injection eo30 with ea_ en_ ec_; (first | subst ea_ | (injection ea_ with ea_; subst ea_)); subst ec_; clear en_))
                    have GB30 := Aside0.mk gb30
                    have GG30 := Aside0.mk HG30
                    clear gb30 gl30 HG30
                    (first | simp only [add_plain] at hx126_0 | skip)
                    (first | simp only [add_plain] at hx127_0 | skip)
                    (first | simp only [add_plain] at hx128_0 | skip)
                    obtain ⟨hx30_0, hf30_0⟩ := Kd.R_celln 0 HO_3.out ((ji27) : Int) p30 q30
                    replace p30 := eq_true p30
                    replace q30 := eq_true q30
                    have HP34 := Kd.R_putn HO_3.out ((ji27) : Int) (wrap64 ((wrap64 ((wrap64 (1 + (rd x3_2 (ji18)))) + (rd x3_2 (ji21)))) - (rd x3_2 (ji24))))
                    rw [← Ny129.out] at HP34
                    have HQ34 := Aside0.mk HP34
                    clear HP34
                    refine start_ (n := 29) (S := fun w' => w'.cell? ⟨gb121, 0, none⟩ = some (.int .i64 a0_0) ∧ w'.cell? ⟨gb121, 1, none⟩ = some (.int .i64 a0_1) ∧ w'.cell? ⟨gb121, 2, none⟩ = some (.int .i64 a0_2) ∧ w'.cell? ⟨gb121, 3, none⟩ = some (.int .i64 a0_3) ∧ w'.cell? ⟨gb121, 4, none⟩ = some (.slice (some ad125) l0_4.length c0_4) ∧ w'.cell? ⟨go30, ((ji18)).toNat, none⟩ = some (.int .i64 (rd x3_2 (ji18))) ∧ w'.cell? ⟨go30, ((ji21)).toNat, none⟩ = some (.int .i64 (rd x3_2 (ji21))) ∧ w'.cell? ⟨go30, ((ji24)).toNat, none⟩ = some (.int .i64 (rd x3_2 (ji24)))) (ds := [28]) (bA 29 0) (by kernel_rfl) rfl rfl ⟨(blk_cell BK121.out 0).trans rfl, (blk_cell BK121.out 1).trans rfl, (blk_cell BK121.out 2).trans rfl, (blk_cell BK121.out 3).trans rfl, (blk_cell BK121.out 4).trans rfl, hx126_0, hx127_0, hx128_0⟩ (fun hHeld => ?_); refine with_tabW morphology_plane_sums.tab12 morphology_plane_sums.bits12 (fun HT_ HW_ => ?_)
                    generalize wr.drew = w32 at HO_3 BK121 HB GG30 HQ34 hf30_0 hx126_0 hx127_0 hx128_0 hx30_0 hHeld ⊢
                    refine pt HT_ 0 45 ?_
                    refine pt HT_ 1 46 ?_
                    refine pt HT_ 2 47 ?_
                    refine pt HT_ 3 48 ?_
                    refine pt HT_ 4 49 ?_
                    refine pt HT_ 5 50 ?_
                    refine pt HT_ 6 51 ?_
                    refine pt HT_ 9 54 ?_
                    refine pt HT_ 10 55 ?_
                    refine pt HT_ 11 56 ?_
                    refine pt HT_ 18 63 ?_
                    refine pt HT_ 19 64 ?_
                    refine pt HT_ 20 65 ?_
                    refine tk HT_ HW_ hHeld 7 52 ?_
                    refine pt HT_ 8 53 ?_
                    refine tk HT_ HW_ hHeld 12 57 ?_
                    refine pt HT_ 13 58 ?_
                    refine pt HT_ 14 59 ?_
                    refine pt HT_ 15 60 ?_
                    refine tk HT_ HW_ hHeld 16 61 ?_
                    refine pt HT_ 17 62 ?_
                    refine tk HT_ HW_ hHeld 21 66 ?_
                    refine pt HT_ 22 67 ?_
                    refine pt HT_ 23 68 ?_
                    refine pt HT_ 24 69 ?_
                    refine tk HT_ HW_ hHeld 25 70 ?_
                    refine pt HT_ 26 71 ?_
                    refine pt HT_ 27 72 ?_
                    refine last_ (i := 28) (N := none) (bA 29 536870911) rfl rfl (one_of HT_.out (by kernel_rfl)) (by decide) (fun K hK => ?_)
                    refine skip_ (w1 := ?_) (by rfl) rfl ?_ ?_
                    rotate_left
                    ·go_simp
                     rfl
                    refine hK.out _ _ ?_
                    clear hK K
                    refine done_ (done_of HT_.out (by kernel_rfl)) ?_
                    try go_wp2
                    go_roundg k2
                    case measure => have := HK1.out; have := HK2.out; omega
                    case rel => exact ⟨(y129), (wrap64 (x23_2 + 1)), (by first | rfl | (simp; done) | (simp [*]; done)), H', ⟨by have := HK1.out; have := HK2.out; omega⟩, ⟨rkx HQ34⟩, ⟨by refine bkt ?_; refine blk_far ?_ (by have h_ := Kd.R_ne HO_3.out BK121.out (by decide); intro e_; exact h_ (by rw [e_]; rfl)) _; refine bkt ?_; exact BK121.out⟩, ⟨hb2 HB GB30 GE121⟩⟩
                   ·rw [if_neg c29] at H
                    exact absurd H (by simp)
                  ·rw [if_neg c28] at H
                   exact absurd H (by simp)
                 ·rw [if_neg c26] at H
                  exact absurd H (by simp)
                ·rw [if_neg c25] at H
                 exact absurd H (by simp)
               ·rw [if_neg c23] at H
                exact absurd H (by simp)
              ·rw [if_neg c22] at H
               exact absurd H (by simp)
             ·rw [if_neg c20] at H
              exact absurd H (by simp)
            ·rw [if_neg c19] at H
             exact absurd H (by simp)
           ·replace c17 := Bool.eq_false_iff.mpr c17
            subst c17
            have H1 : (if 0 ≤ (wrap64 ((wrap64 ((wrap64 ((wrap64 ((wrap64 (x18_1 + 1)) * (wrap64 (a0_0 + 1)))) + x23_2)) + 1)) - 1)) then (if (wrap64 ((wrap64 ((wrap64 ((wrap64 ((wrap64 (x18_1 + 1)) * (wrap64 (a0_0 + 1)))) + x23_2)) + 1)) - 1)) < (x3_2.length : Int) then (if 0 ≤ (wrap64 ((wrap64 ((wrap64 ((wrap64 ((wrap64 ((wrap64 (x18_1 + 1)) * (wrap64 (a0_0 + 1)))) + x23_2)) + 1)) - a0_0)) - 1)) then (if (wrap64 ((wrap64 ((wrap64 ((wrap64 ((wrap64 ((wrap64 (x18_1 + 1)) * (wrap64 (a0_0 + 1)))) + x23_2)) + 1)) - a0_0)) - 1)) < (x3_2.length : Int) then (if 0 ≤ (wrap64 ((wrap64 ((wrap64 ((wrap64 ((wrap64 ((wrap64 (x18_1 + 1)) * (wrap64 (a0_0 + 1)))) + x23_2)) + 1)) - a0_0)) - 2)) then (if (wrap64 ((wrap64 ((wrap64 ((wrap64 ((wrap64 ((wrap64 (x18_1 + 1)) * (wrap64 (a0_0 + 1)))) + x23_2)) + 1)) - a0_0)) - 2)) < (x3_2.length : Int) then (if 0 ≤ (wrap64 ((wrap64 ((wrap64 ((wrap64 (x18_1 + 1)) * (wrap64 (a0_0 + 1)))) + x23_2)) + 1)) then (if (wrap64 ((wrap64 ((wrap64 ((wrap64 (x18_1 + 1)) * (wrap64 (a0_0 + 1)))) + x23_2)) + 1)) < (x3_2.length : Int) then (morphology_plane_sums.l1 k2 (x3_2.set ((wrap64 ((wrap64 ((wrap64 ((wrap64 (x18_1 + 1)) * (wrap64 (a0_0 + 1)))) + x23_2)) + 1)) : Int).toNat (wrap64 ((wrap64 ((wrap64 ((rd x3_2 (wrap64 ((wrap64 ((wrap64 ((wrap64 ((wrap64 (x18_1 + 1)) * (wrap64 (a0_0 + 1)))) + x23_2)) + 1)) - 1))))) + (rd x3_2 (wrap64 ((wrap64 ((wrap64 ((wrap64 ((wrap64 ((wrap64 (x18_1 + 1)) * (wrap64 (a0_0 + 1)))) + x23_2)) + 1)) - a0_0)) - 1))))) - (rd x3_2 (wrap64 ((wrap64 ((wrap64 ((wrap64 ((wrap64 ((wrap64 (x18_1 + 1)) * (wrap64 (a0_0 + 1)))) + x23_2)) + 1)) - a0_0)) - 2)))))) x18_1 a0_1 x18_1 a0_0 (wrap64 (x23_2 + 1)) a0_0 a0_1 a0_2 a0_3 l0_4) else (none)) else (none)) else (none)) else (none)) else (none)) else (none)) else (none)) else (none)) = some r := by rw [if_neg (show ¬ (false = true) by decide)] at H; exact H
            clear H
            have H := H1
            clear H1
            obtain ⟨ji35, hji35⟩ : ∃ j_ : Int, (wrap64 ((wrap64 ((wrap64 ((wrap64 ((wrap64 (x18_1 + 1)) * (wrap64 (a0_0 + 1)))) + x23_2)) + 1)) - 1)) = j_ := ⟨_, rfl⟩
            replace H : (if 0 ≤ (ji35) then (if (ji35) < (x3_2.length : Int) then (if 0 ≤ (wrap64 ((wrap64 ((wrap64 ((wrap64 ((wrap64 ((wrap64 (x18_1 + 1)) * (wrap64 (a0_0 + 1)))) + x23_2)) + 1)) - a0_0)) - 1)) then (if (wrap64 ((wrap64 ((wrap64 ((wrap64 ((wrap64 ((wrap64 (x18_1 + 1)) * (wrap64 (a0_0 + 1)))) + x23_2)) + 1)) - a0_0)) - 1)) < (x3_2.length : Int) then (if 0 ≤ (wrap64 ((wrap64 ((wrap64 ((wrap64 ((wrap64 ((wrap64 (x18_1 + 1)) * (wrap64 (a0_0 + 1)))) + x23_2)) + 1)) - a0_0)) - 2)) then (if (wrap64 ((wrap64 ((wrap64 ((wrap64 ((wrap64 ((wrap64 (x18_1 + 1)) * (wrap64 (a0_0 + 1)))) + x23_2)) + 1)) - a0_0)) - 2)) < (x3_2.length : Int) then (if 0 ≤ (wrap64 ((wrap64 ((wrap64 ((wrap64 (x18_1 + 1)) * (wrap64 (a0_0 + 1)))) + x23_2)) + 1)) then (if (wrap64 ((wrap64 ((wrap64 ((wrap64 (x18_1 + 1)) * (wrap64 (a0_0 + 1)))) + x23_2)) + 1)) < (x3_2.length : Int) then (morphology_plane_sums.l1 k2 (x3_2.set ((wrap64 ((wrap64 ((wrap64 ((wrap64 (x18_1 + 1)) * (wrap64 (a0_0 + 1)))) + x23_2)) + 1)) : Int).toNat (wrap64 ((wrap64 ((wrap64 ((rd x3_2 (ji35)))) + (rd x3_2 (wrap64 ((wrap64 ((wrap64 ((wrap64 ((wrap64 ((wrap64 (x18_1 + 1)) * (wrap64 (a0_0 + 1)))) + x23_2)) + 1)) - a0_0)) - 1))))) - (rd x3_2 (wrap64 ((wrap64 ((wrap64 ((wrap64 ((wrap64 ((wrap64 (x18_1 + 1)) * (wrap64 (a0_0 + 1)))) + x23_2)) + 1)) - a0_0)) - 2)))))) x18_1 a0_1 x18_1 a0_0 (wrap64 (x23_2 + 1)) a0_0 a0_1 a0_2 a0_3 l0_4) else (none)) else (none)) else (none)) else (none)) else (none)) else (none)) else (none)) else (none)) = some r := by first | (rw [hji35] at H; exact H) | (simp only [hji35] at H ⊢; exact H)
            have hji35w : (IntKind.i64.wrap ((wrap64 ((wrap64 ((wrap64 ((wrap64 (x18_1 + 1)) * (wrap64 (a0_0 + 1)))) + x23_2)) + 1)) - 1)) = ji35 := (i64_w _).trans hji35
            by_cases c36 : 0 ≤ (ji35)
            ·rw [if_pos c36] at H
             have c36b0 : decide (0 ≤ (ji35)) = true := decide_eq_true c36
             clear c36
             by_cases c37 : (ji35) < (x3_2.length : Int)
             ·rw [if_pos c37] at H
              have c37b0 : decide ((ji35) < (x3_2.length : Int)) = true := decide_eq_true c37
              clear c37
              obtain ⟨ji38, hji38⟩ : ∃ j_ : Int, (wrap64 ((wrap64 ((wrap64 ((wrap64 ((wrap64 ((wrap64 (x18_1 + 1)) * (wrap64 (a0_0 + 1)))) + x23_2)) + 1)) - a0_0)) - 1)) = j_ := ⟨_, rfl⟩
              replace H : (if 0 ≤ (ji38) then (if (ji38) < (x3_2.length : Int) then (if 0 ≤ (wrap64 ((wrap64 ((wrap64 ((wrap64 ((wrap64 ((wrap64 (x18_1 + 1)) * (wrap64 (a0_0 + 1)))) + x23_2)) + 1)) - a0_0)) - 2)) then (if (wrap64 ((wrap64 ((wrap64 ((wrap64 ((wrap64 ((wrap64 (x18_1 + 1)) * (wrap64 (a0_0 + 1)))) + x23_2)) + 1)) - a0_0)) - 2)) < (x3_2.length : Int) then (if 0 ≤ (wrap64 ((wrap64 ((wrap64 ((wrap64 (x18_1 + 1)) * (wrap64 (a0_0 + 1)))) + x23_2)) + 1)) then (if (wrap64 ((wrap64 ((wrap64 ((wrap64 (x18_1 + 1)) * (wrap64 (a0_0 + 1)))) + x23_2)) + 1)) < (x3_2.length : Int) then (morphology_plane_sums.l1 k2 (x3_2.set ((wrap64 ((wrap64 ((wrap64 ((wrap64 (x18_1 + 1)) * (wrap64 (a0_0 + 1)))) + x23_2)) + 1)) : Int).toNat (wrap64 ((wrap64 ((wrap64 ((rd x3_2 (ji35)))) + (rd x3_2 (ji38)))) - (rd x3_2 (wrap64 ((wrap64 ((wrap64 ((wrap64 ((wrap64 ((wrap64 (x18_1 + 1)) * (wrap64 (a0_0 + 1)))) + x23_2)) + 1)) - a0_0)) - 2)))))) x18_1 a0_1 x18_1 a0_0 (wrap64 (x23_2 + 1)) a0_0 a0_1 a0_2 a0_3 l0_4) else (none)) else (none)) else (none)) else (none)) else (none)) else (none)) = some r := by first | (rw [hji38] at H; exact H) | (simp only [hji38] at H ⊢; exact H)
              have hji38w : (IntKind.i64.wrap ((wrap64 ((wrap64 ((wrap64 ((wrap64 ((wrap64 (x18_1 + 1)) * (wrap64 (a0_0 + 1)))) + x23_2)) + 1)) - a0_0)) - 1)) = ji38 := (i64_w _).trans hji38
              by_cases c39 : 0 ≤ (ji38)
              ·rw [if_pos c39] at H
               have c39b0 : decide (0 ≤ (ji38)) = true := decide_eq_true c39
               clear c39
               by_cases c40 : (ji38) < (x3_2.length : Int)
               ·rw [if_pos c40] at H
                have c40b0 : decide ((ji38) < (x3_2.length : Int)) = true := decide_eq_true c40
                clear c40
                obtain ⟨ji41, hji41⟩ : ∃ j_ : Int, (wrap64 ((wrap64 ((wrap64 ((wrap64 ((wrap64 ((wrap64 (x18_1 + 1)) * (wrap64 (a0_0 + 1)))) + x23_2)) + 1)) - a0_0)) - 2)) = j_ := ⟨_, rfl⟩
                replace H : (if 0 ≤ (ji41) then (if (ji41) < (x3_2.length : Int) then (if 0 ≤ (wrap64 ((wrap64 ((wrap64 ((wrap64 (x18_1 + 1)) * (wrap64 (a0_0 + 1)))) + x23_2)) + 1)) then (if (wrap64 ((wrap64 ((wrap64 ((wrap64 (x18_1 + 1)) * (wrap64 (a0_0 + 1)))) + x23_2)) + 1)) < (x3_2.length : Int) then (morphology_plane_sums.l1 k2 (x3_2.set ((wrap64 ((wrap64 ((wrap64 ((wrap64 (x18_1 + 1)) * (wrap64 (a0_0 + 1)))) + x23_2)) + 1)) : Int).toNat (wrap64 ((wrap64 ((wrap64 ((rd x3_2 (ji35)))) + (rd x3_2 (ji38)))) - (rd x3_2 (ji41))))) x18_1 a0_1 x18_1 a0_0 (wrap64 (x23_2 + 1)) a0_0 a0_1 a0_2 a0_3 l0_4) else (none)) else (none)) else (none)) else (none)) = some r := by first | (rw [hji41] at H; exact H) | (simp only [hji41] at H ⊢; exact H)
                have hji41w : (IntKind.i64.wrap ((wrap64 ((wrap64 ((wrap64 ((wrap64 ((wrap64 (x18_1 + 1)) * (wrap64 (a0_0 + 1)))) + x23_2)) + 1)) - a0_0)) - 2)) = ji41 := (i64_w _).trans hji41
                by_cases c42 : 0 ≤ (ji41)
                ·rw [if_pos c42] at H
                 have c42b0 : decide (0 ≤ (ji41)) = true := decide_eq_true c42
                 clear c42
                 by_cases c43 : (ji41) < (x3_2.length : Int)
                 ·rw [if_pos c43] at H
                  have c43b0 : decide ((ji41) < (x3_2.length : Int)) = true := decide_eq_true c43
                  clear c43
                  obtain ⟨ji44, hji44⟩ : ∃ j_ : Int, (wrap64 ((wrap64 ((wrap64 ((wrap64 (x18_1 + 1)) * (wrap64 (a0_0 + 1)))) + x23_2)) + 1)) = j_ := ⟨_, rfl⟩
                  replace H : (if 0 ≤ (ji44) then (if (ji44) < (x3_2.length : Int) then (morphology_plane_sums.l1 k2 (x3_2.set ((ji44) : Int).toNat (wrap64 ((wrap64 ((wrap64 ((rd x3_2 (ji35)))) + (rd x3_2 (ji38)))) - (rd x3_2 (ji41))))) x18_1 a0_1 x18_1 a0_0 (wrap64 (x23_2 + 1)) a0_0 a0_1 a0_2 a0_3 l0_4) else (none)) else (none)) = some r := by first | (rw [hji44] at H; exact H) | (simp only [hji44] at H ⊢; exact H)
                  have hji44w : (IntKind.i64.wrap ((wrap64 ((wrap64 ((wrap64 (x18_1 + 1)) * (wrap64 (a0_0 + 1)))) + x23_2)) + 1)) = ji44 := (i64_w _).trans hji44
                  have hji35xji44 : (IntKind.i64.wrap (ji44 - 1)) = ji35 := by rw [← hji44]; exact hji35w
                  have hji35yji44 : wrap64 (ji44 - 1) = ji35 := (i64_w _).symm.trans hji35xji44
                  have hji38xji44 : (IntKind.i64.wrap ((wrap64 (ji44 - a0_0)) - 1)) = ji38 := by rw [← hji44]; exact hji38w
                  have hji38yji44 : wrap64 ((wrap64 (ji44 - a0_0)) - 1) = ji38 := (i64_w _).symm.trans hji38xji44
                  have hji41xji44 : (IntKind.i64.wrap ((wrap64 (ji44 - a0_0)) - 2)) = ji41 := by rw [← hji44]; exact hji41w
                  have hji41yji44 : wrap64 ((wrap64 (ji44 - a0_0)) - 2) = ji41 := (i64_w _).symm.trans hji41xji44
                  by_cases c45 : 0 ≤ (ji44)
                  ·rw [if_pos c45] at H
                   have c45b0 : decide (0 ≤ (ji44)) = true := decide_eq_true c45
                   clear c45
                   by_cases c46 : (ji44) < (x3_2.length : Int)
                   ·rw [if_pos c46] at H
                    have c46b0 : decide ((ji44) < (x3_2.length : Int)) = true := decide_eq_true c46
                    clear c46
                    obtain ⟨y133, hy133⟩ : ∃ y_ : List Int, y_ = (x3_2.set ((ji44) : Int).toNat (wrap64 ((wrap64 ((wrap64 ((rd x3_2 (ji35)))) + (rd x3_2 (ji38)))) - (rd x3_2 (ji41))))) := ⟨_, rfl⟩
                    replace H : (morphology_plane_sums.l1 k2 y133 x18_1 a0_1 x18_1 a0_0 (wrap64 (x23_2 + 1)) a0_0 a0_1 a0_2 a0_3 l0_4) = some r := by first | (rw [hy133]; with_reducible exact H) | (have H2_ := (Option.bind_some _ _).symm.trans H; rw [hy133]; with_reducible exact H2_) | (have H2_ := (Option.bind_some _ _).symm.trans H; with_reducible exact H2_) | with_reducible exact H | (rw [hy133]; exact H) | exact H
                    have Ny133 := Aside0.mk hy133
                    clear hy133
                    have H' := Aside0.mk H
                    clear H
                    have hcz48_0 : wr.cell? ⟨gb121, 0, none⟩ = some (.int .i64 a0_0) := (blk_cell BK121.out 0).trans rfl
                    have hcz48_1 : wr.cell? ⟨gb121, 1, none⟩ = some (.int .i64 a0_1) := (blk_cell BK121.out 1).trans rfl
                    have hcz48_2 : wr.cell? ⟨gb121, 2, none⟩ = some (.int .i64 a0_2) := (blk_cell BK121.out 2).trans rfl
                    have hcz48_3 : wr.cell? ⟨gb121, 3, none⟩ = some (.int .i64 a0_3) := (blk_cell BK121.out 3).trans rfl
                    have hcz48_4 : wr.cell? ⟨gb121, 4, none⟩ = some (.slice A0_4 l0_4.length c0_4) := (blk_cell BK121.out 4).trans rfl
                    have hfz48_0 := blk_frozen BK121.out 0
                    have hfz48_1 := blk_frozen BK121.out 1
                    have hfz48_2 := blk_frozen BK121.out 2
                    have hfz48_3 := blk_frozen BK121.out 3
                    have hfz48_4 := blk_frozen BK121.out 4
                    have p125 : 0 ≤ ((ji13) : Int) := of_decide_eq_true (by first | (with_reducible assumption) | assumption)
                    have q125 : (ji13) < (l0_4.length : Int) := of_decide_eq_true (by first | (with_reducible assumption) | assumption)
                    obtain ⟨ad125, e125, hx125_0⟩ := Kd.at_bool HR0_4.out (ji13) p125 q125
                    (try rw [← Nbq16.out] at hx125_0)
                    cases e125
                    replace hx125_0 := (HB.out.cell (World.block_lt_of_cell? w _ hx125_0)).trans hx125_0
                    replace p125 := eq_true p125
                    replace q125 := eq_true q125
                    try go_wp2
                    have n0_ := Aside0.mk (Kd.R_drew HO_3.out)
                    have n1_ := Aside0.mk (blk_drew BK121.out)
                    have n2_ := Aside0.mk (below_drew1 HB.out)
                    clear HO_3
                    clear BK121
                    clear HB
                    have HO_3 := n0_
                    have BK121 := n1_
                    have HB := n2_
                    clear n0_ n1_ n2_
                    obtain ⟨Ao50, co50, eo50⟩ := Kd.R_slice HO_3.out
                    (first | subst eo50 | (injection eo50 with f1_ f2_ f3_; have f4_ := f1_.symm; have f5_ := f3_.symm; clear f1_ f2_ f3_; subst f4_; subst f5_))
                    have p130 : 0 ≤ ((ji35) : Int) := of_decide_eq_true (by first | (with_reducible assumption) | assumption)
                    have q130 : (ji35) < (x3_2.length : Int) := of_decide_eq_true (by first | (with_reducible assumption) | assumption)
                    obtain ⟨ad130, e130, hx130_0⟩ := Kd.at_int (Kd.R_reads' HO_3.out).2.2 (ji35) p130 q130
                    cases e130
                    replace p130 := eq_true p130
                    replace q130 := eq_true q130
                    have p131 : 0 ≤ ((ji38) : Int) := of_decide_eq_true (by first | (with_reducible assumption) | assumption)
                    have q131 : (ji38) < (x3_2.length : Int) := of_decide_eq_true (by first | (with_reducible assumption) | assumption)
                    obtain ⟨ad131, e131, hx131_0⟩ := Kd.at_int (Kd.R_reads' HO_3.out).2.2 (ji38) p131 q131
                    obtain rfl : ad130 = ad131 := (by injection e131)
                    replace p131 := eq_true p131
                    replace q131 := eq_true q131
                    have p132 : 0 ≤ ((ji41) : Int) := of_decide_eq_true (by first | (with_reducible assumption) | assumption)
                    have q132 : (ji41) < (x3_2.length : Int) := of_decide_eq_true (by first | (with_reducible assumption) | assumption)
                    obtain ⟨ad132, e132, hx132_0⟩ := Kd.at_int (Kd.R_reads' HO_3.out).2.2 (ji41) p132 q132
                    obtain rfl : ad130 = ad132 := (by injection e132)
                    replace p132 := eq_true p132
                    replace q132 := eq_true q132
                    have p47 : 0 ≤ ((ji44) : Int) := of_decide_eq_true (by first | (with_reducible assumption) | assumption)
                    have q47 : ((ji44) : Int) < ((x3_2.length : Int) : Int) := of_decide_eq_true (by first | (with_reducible assumption) | assumption)
                    obtain ⟨go47, co47, eo47, gb47, gl47, cl47, HG47⟩ := Kd.R_form HO_3.out (by omega)
                    (first | cases eo47 | (injection eo47 with ea_ en_ ec_; (first | subst ea_ | (injection ea_ with ea_; subst ea_)); subst ec_; clear en_))
                    have GB47 := Aside0.mk gb47
                    have GG47 := Aside0.mk HG47
                    clear gb47 gl47 HG47
                    (first | simp only [add_plain] at hx130_0 | skip)
                    (first | simp only [add_plain] at hx131_0 | skip)
                    (first | simp only [add_plain] at hx132_0 | skip)
                    obtain ⟨hx47_0, hf47_0⟩ := Kd.R_celln 0 HO_3.out ((ji44) : Int) p47 q47
                    replace p47 := eq_true p47
                    replace q47 := eq_true q47
                    have HP51 := Kd.R_putn HO_3.out ((ji44) : Int) (wrap64 ((wrap64 ((wrap64 ((rd x3_2 (ji35)))) + (rd x3_2 (ji38)))) - (rd x3_2 (ji41))))
                    rw [← Ny133.out] at HP51
                    have HQ51 := Aside0.mk HP51
                    clear HP51
                    refine start_ (n := 29) (S := fun w' => w'.cell? ⟨gb121, 0, none⟩ = some (.int .i64 a0_0) ∧ w'.cell? ⟨gb121, 1, none⟩ = some (.int .i64 a0_1) ∧ w'.cell? ⟨gb121, 2, none⟩ = some (.int .i64 a0_2) ∧ w'.cell? ⟨gb121, 3, none⟩ = some (.int .i64 a0_3) ∧ w'.cell? ⟨gb121, 4, none⟩ = some (.slice (some ad125) l0_4.length c0_4) ∧ w'.cell? ⟨go47, ((ji35)).toNat, none⟩ = some (.int .i64 (rd x3_2 (ji35))) ∧ w'.cell? ⟨go47, ((ji38)).toNat, none⟩ = some (.int .i64 (rd x3_2 (ji38))) ∧ w'.cell? ⟨go47, ((ji41)).toNat, none⟩ = some (.int .i64 (rd x3_2 (ji41)))) (ds := [28]) (bA 29 0) (by kernel_rfl) rfl rfl ⟨(blk_cell BK121.out 0).trans rfl, (blk_cell BK121.out 1).trans rfl, (blk_cell BK121.out 2).trans rfl, (blk_cell BK121.out 3).trans rfl, (blk_cell BK121.out 4).trans rfl, hx130_0, hx131_0, hx132_0⟩ (fun hHeld => ?_); refine with_tabW morphology_plane_sums.tab12 morphology_plane_sums.bits12 (fun HT_ HW_ => ?_)
                    generalize wr.drew = w49 at HO_3 BK121 HB GG47 HQ51 hf47_0 hx130_0 hx131_0 hx132_0 hx47_0 hHeld ⊢
                    refine pt HT_ 0 45 ?_
                    refine pt HT_ 1 46 ?_
                    refine pt HT_ 2 47 ?_
                    refine pt HT_ 3 48 ?_
                    refine pt HT_ 4 49 ?_
                    refine pt HT_ 5 50 ?_
                    refine pt HT_ 6 51 ?_
                    refine pt HT_ 9 54 ?_
                    refine pt HT_ 10 55 ?_
                    refine pt HT_ 11 56 ?_
                    refine pt HT_ 18 63 ?_
                    refine pt HT_ 19 64 ?_
                    refine pt HT_ 20 65 ?_
                    refine tk HT_ HW_ hHeld 7 52 ?_
                    refine pt HT_ 8 53 ?_
                    refine tk HT_ HW_ hHeld 12 57 ?_
                    refine pt HT_ 13 58 ?_
                    refine pt HT_ 14 59 ?_
                    refine pt HT_ 15 60 ?_
                    refine tk HT_ HW_ hHeld 16 61 ?_
                    refine pt HT_ 17 62 ?_
                    refine tk HT_ HW_ hHeld 21 66 ?_
                    refine pt HT_ 22 67 ?_
                    refine pt HT_ 23 68 ?_
                    refine pt HT_ 24 69 ?_
                    refine tk HT_ HW_ hHeld 25 70 ?_
                    refine pt HT_ 26 71 ?_
                    refine pt HT_ 27 72 ?_
                    refine last_ (i := 28) (N := none) (bA 29 536870911) rfl rfl (one_of HT_.out (by kernel_rfl)) (by decide) (fun K hK => ?_)
                    refine skip_ (w1 := ?_) (by rfl) rfl ?_ ?_
                    rotate_left
                    ·go_simp
                     rfl
                    refine hK.out _ _ ?_
                    clear hK K
                    refine done_ (done_of HT_.out (by kernel_rfl)) ?_
                    try go_wp2
                    go_roundg k2
                    case measure => have := HK1.out; have := HK2.out; omega
                    case rel => exact ⟨(y133), (wrap64 (x23_2 + 1)), (by first | rfl | (simp; done) | (simp [*]; done)), H', ⟨by have := HK1.out; have := HK2.out; omega⟩, ⟨rkx HQ51⟩, ⟨by refine bkt ?_; refine blk_far ?_ (by have h_ := Kd.R_ne HO_3.out BK121.out (by decide); intro e_; exact h_ (by rw [e_]; rfl)) _; refine bkt ?_; exact BK121.out⟩, ⟨hb2 HB GB47 GE121⟩⟩
                   ·rw [if_neg c46] at H
                    exact absurd H (by simp)
                  ·rw [if_neg c45] at H
                   exact absurd H (by simp)
                 ·rw [if_neg c43] at H
                  exact absurd H (by simp)
                ·rw [if_neg c42] at H
                 exact absurd H (by simp)
               ·rw [if_neg c40] at H
                exact absurd H (by simp)
              ·rw [if_neg c39] at H
               exact absurd H (by simp)
             ·rw [if_neg c37] at H
              exact absurd H (by simp)
            ·rw [if_neg c36] at H
             exact absurd H (by simp)
          ·rw [if_neg c15] at H
           exact absurd H (by simp)
         ·rw [if_neg c14] at H
          exact absurd H (by simp)
        ·rw [if_neg c12] at H
         have c12b0 : decide (x23_2 < a0_0) = false := decide_eq_false c12
         clear c12
         have H' := Aside0.mk H
         clear H
         go_wp2
         go_roundg k2
         case measure => have := HK1.out; have := HK2.out; omega
         case rel => exact ⟨(x3_2), (wrap64 (x18_1 + 1)), (by first | rfl | (simp; done) | (simp [*]; done)), H', ⟨by have := HK1.out; have := HK2.out; omega⟩, ⟨rkx HO_3⟩, ⟨bkx BK121⟩, ⟨hb1 HB GE121⟩⟩
     ·rw [if_neg c10] at H
      have c10b0 : decide (x18_1 < a0_1) = false := decide_eq_false c10
      clear c10
      obtain rfl := Option.some.inj H
      go_wp2
      go_ret
      exact ⟨_, by first | rfl | (simp [errW_none, errW_some] <;> rfl) | (simp only [← hji2]; first | rfl | (simp [errW_none, errW_some] <;> rfl)) | (simp [*, errW_none, errW_some] <;> rfl), by refine rkt ?_; exact HO_3.out, by repeat (first | (with_reducible first | exact HB.out | apply below_alloc | apply pw_below_drewN | apply below_drew1 | refine below_set ?_ GE121.out) | exact HB.out)⟩
  ·rw [if_neg c4] at H
   exact absurd H (by simp)
 ·rw [if_neg c3] at H
  exact absurd H (by simp)

end Go.Proofs.Ytkakiblnhgpdnaa.PR
