-- Written by this session's own program (myprint.py).
import Derived.Test.YtkakiblnhgpdnaaPRx0
namespace Go.Proofs.Ytkakiblnhgpdnaa.PR
open Go.RowKit Go.Proofs.YtkakiblnhgpdnaaW.PrintWords Go.Proofs.YtkakiblnhgpdnaaW.PrintLast Go.Proofs.YtkakiblnhgpdnaaW.PrintMore Go.Proofs.Ytkakiblnhgpdnaa.XWords Go.Proofs.Ytkakiblnhgpdnaa.XShort Go.Proofs.Ytkakiblnhgpdnaa.XFn
attribute [local go_sem] max2_int min2_int max_two min_two max_three min_three max_four min_four   -- for this text's walks alone
set_option linter.unusedVariables false
set_option linter.unusedSimpArgs false

/-! ### morphology_planeOf: function 36 -/
def morphology_planeOf.l0 : Nat → Int → Int → Int → Int → Int → Int → List Bool → Int → Int → Int → Int → List Bool → Option (Int × Int × Int × Int × List Bool)
 | 0, _, _, _, _, _, _, _, _, _, _, _, _ => none
 | k + 1, x1, x2, x30, x31, x110000, x110001, x110002, x112000, x112001, x112002, x112003, x112004 => if x31 < x30 then (if 0 ≤ (wrap64 ((wrap64 ((wrap64 (x31 + x2)) * x112000)) + x1)) then (if (wrap64 ((wrap64 ((wrap64 (x31 + x2)) * x112000)) + x1)) ≤ (x112004.length : Int) then (if 0 ≤ (wrap64 (x31 * x110000)) then (if (wrap64 (x31 * x110000)) ≤ (wrap64 ((wrap64 (x31 + 1)) * x110000)) then (if (wrap64 ((wrap64 (x31 + 1)) * x110000)) ≤ (x110002.length : Int) then (morphology_planeOf.l0 k x1 x2 x30 (wrap64 (x31 + 1)) x110000 x110001 x110002 x112000 x112001 x112002 x112003 (copyIn x112004 (((wrap64 ((wrap64 ((wrap64 (x31 + x2)) * x112000)) + x1)) : Int).toNat) (x112004.length - ((wrap64 ((wrap64 ((wrap64 (x31 + x2)) * x112000)) + x1)) : Int).toNat) ((x110002.take ((wrap64 ((wrap64 (x31 + 1)) * x110000)) : Int).toNat).drop ((wrap64 (x31 * x110000)) : Int).toNat))) else (none)) else (none)) else (none)) else (none)) else (none)) else (some (x112000, x112001, x112002, x112003, x112004))
def morphology_planeOf.f (k : Nat) (a0_0 : Int) (a0_1 : Int) (l0_2 : List Bool) (a1 : Int) (a2 : Int) : Option (Int × Int × Int × Int × List Bool) := if 0 ≤ (wrap64 ((wrap64 (a0_0 + (wrap64 (2 * a1)))) * (wrap64 (a0_1 + (wrap64 (2 * a2)))))) then (if (wrap64 ((wrap64 (a0_0 + (wrap64 (2 * a1)))) * (wrap64 (a0_1 + (wrap64 (2 * a2))))) : Int).toNat ≤ 281474976710656 then (morphology_planeOf.l0 k a1 a2 a0_1 0 a0_0 a0_1 l0_2 (wrap64 (a0_0 + (wrap64 (2 * a1)))) (wrap64 (a0_1 + (wrap64 (2 * a2)))) a1 a2 (List.replicate (wrap64 ((wrap64 (a0_0 + (wrap64 (2 * a1)))) * (wrap64 (a0_1 + (wrap64 (2 * a2))))) : Int).toNat false)) else (none)) else (none)
theorem morphology_planeOf.mono_l : ∀ k, (∀ y0 y1 y2 y3 y4 y5 y6 y7 y8 y9 y10 y11, LeO (morphology_planeOf.l0 k y0 y1 y2 y3 y4 y5 y6 y7 y8 y9 y10 y11) (morphology_planeOf.l0 (k + 1) y0 y1 y2 y3 y4 y5 y6 y7 y8 y9 y10 y11))
 | 0 => fun _ _ _ _ _ _ _ _ _ _ _ _ r h => by simp [morphology_planeOf.l0] at h
 | k + 1 => by
  have ih0 := morphology_planeOf.mono_l k
  ·intro y0 y1 y2 y3 y4 y5 y6 y7 y8 y9 y10 y11
   unfold morphology_planeOf.l0
   repeat' first
   | (with_reducible exact ih0 _ _ _ _ _ _ _ _ _ _ _ _)
   | (with_reducible exact LeO.refl _)
   | (with_reducible exact LeO.none _)
   | (with_reducible refine LeO.ite ?_ ?_)
   | (with_reducible refine LeO.bind ?_ (fun _ => ?_))
   | exact ih0 _ _ _ _ _ _ _ _ _ _ _ _
   | exact LeO.none _
   | refine LeO.ite ?_ ?_
   | refine LeO.bind ?_ (fun _ => ?_)
theorem morphology_planeOf.mono : ∀ a0 a1 a2 a3 a4 k, LeO (morphology_planeOf.f k a0 a1 a2 a3 a4) (morphology_planeOf.f (k + 1) a0 a1 a2 a3 a4) := by
 intro a0 a1 a2 a3 a4 k
 have ih0 := morphology_planeOf.mono_l k
 unfold morphology_planeOf.f
 repeat' first
   | (with_reducible exact ih0 _ _ _ _ _ _ _ _ _ _ _ _)
   | (with_reducible exact LeO.refl _)
   | (with_reducible exact LeO.none _)
   | (with_reducible refine LeO.ite ?_ ?_)
   | (with_reducible refine LeO.bind ?_ (fun _ => ?_))
   | exact ih0 _ _ _ _ _ _ _ _ _ _ _ _
   | exact LeO.none _
   | refine LeO.ite ?_ ?_
   | refine LeO.bind ?_ (fun _ => ?_)
def morphology_planeOf.T6 : Bool × List (List Nat × List Nat) := (true, [([], []), ([0], [0]), ([], []), ([], []), ([2, 3], [2, 3]), ([], []), ([5], [5]), ([4, 6], [4, 6]), ([], []), ([7, 8], [7, 8]), ([1, 9], [1, 9]), ([], []), ([11], [11]), ([], []), ([], []), ([14], [14]), ([13, 15], [13, 15]), ([], []), ([17], [17]), ([], []), ([19], [19]), ([18, 20], [18, 20]), ([12, 16, 21], [12, 16, 21]), ([10, 22], [10, 22])])
def morphology_planeOf.B6 : List Nat := [0, 1, 0, 0, 12, 0, 32, 124, 0, 508, 1023, 0, 2048, 0, 0, 16384, 57344, 0, 131072, 0, 524288, 1966080, 4192256, 8388607]
theorem morphology_planeOf.tab6 : rtab .any (opsOf Try.f36 6) = morphology_planeOf.T6 := by kernel_rfl
theorem morphology_planeOf.bits6 : waitsOk morphology_planeOf.T6.2 morphology_planeOf.B6 = true := by kernel_rfl
set_option maxHeartbeats 8000000 in
set_option maxRecDepth 100000 in
theorem morphology_planeOf.calls (k : Nat) (a0_0 : Int) (a0_1 : Int) (A0_2 : Option Addr) (c0_2 : Nat) (l0_2 : List Bool) (a1 : Int) (a2 : Int) (r1 : Int) (r2 : Int) (r3 : Int) (r4 : Int) (r5 : List Bool) (w : World) (hr0_2 : Kd.C Kd.bool w A0_2 l0_2.length l0_2) (hc0_2 : l0_2.length ≤ c0_2) (h : morphology_planeOf.f k a0_0 a0_1 l0_2 a1 a2 = some (r1, r2, r3, r4, r5)) :
  Calls Try.prog 36 #[.agg #[.int .i64 a0_0, .int .i64 a0_1, .slice A0_2 l0_2.length c0_2], .int .i64 a1, .int .i64 a2] w fun e w' => ∃ v4_ : Value, e = .returned (.agg #[.int .i64 r1, .int .i64 r2, .int .i64 r3, .int .i64 r4, v4_]) ∧ Kd.R Kd.bool 4 w' w.heap.size (fun _ => True) v4_ r5 ∧ Below w.heap.size w w' := by
 have hu24 := Try.underlying24
 have hu50 := Try.underlying50
 have HR0_2 := Aside0.mk hr0_2
 have HC0_2 := Aside0.mk hc0_2
 clear hr0_2 hc0_2
 have HB := Aside0.mk (Below.refl w.heap.size w)
 have H : (if 0 ≤ (wrap64 ((wrap64 (a0_0 + (wrap64 (2 * a1)))) * (wrap64 (a0_1 + (wrap64 (2 * a2)))))) then (if (wrap64 ((wrap64 (a0_0 + (wrap64 (2 * a1)))) * (wrap64 (a0_1 + (wrap64 (2 * a2))))) : Int).toNat ≤ 281474976710656 then (morphology_planeOf.l0 k a1 a2 a0_1 0 a0_0 a0_1 l0_2 (wrap64 (a0_0 + (wrap64 (2 * a1)))) (wrap64 (a0_1 + (wrap64 (2 * a2)))) a1 a2 (List.replicate (wrap64 ((wrap64 (a0_0 + (wrap64 (2 * a1)))) * (wrap64 (a0_1 + (wrap64 (2 * a2))))) : Int).toNat false)) else (none)) else (none)) = some (r1, r2, r3, r4, r5) := h
 clear h
 obtain ⟨ji4, hji4⟩ : ∃ j_ : Int, (wrap64 ((wrap64 (a0_0 + (wrap64 (2 * a1)))) * (wrap64 (a0_1 + (wrap64 (2 * a2)))))) = j_ := ⟨_, rfl⟩
 replace H : (if 0 ≤ (ji4) then (if (ji4 : Int).toNat ≤ 281474976710656 then (morphology_planeOf.l0 k a1 a2 a0_1 0 a0_0 a0_1 l0_2 (wrap64 (a0_0 + (wrap64 (2 * a1)))) (wrap64 (a0_1 + (wrap64 (2 * a2)))) a1 a2 (List.replicate (ji4 : Int).toNat false)) else (none)) else (none)) = some (r1, r2, r3, r4, r5) := by first | (rw [hji4] at H; exact H) | (simp only [hji4] at H ⊢; exact H)
 have hji4w : (IntKind.i64.wrap ((wrap64 (a0_0 + (wrap64 (2 * a1)))) * (wrap64 (a0_1 + (wrap64 (2 * a2)))))) = ji4 := (i64_w _).trans hji4
 by_cases c5 : 0 ≤ (ji4)
 ·rw [if_pos c5] at H
  have c5b0 := eq_true c5
  have c5b1 : decide (0 ≤ (ji4)) = true := decide_eq_true c5
  clear c5
  by_cases c6 : (ji4 : Int).toNat ≤ 281474976710656
  ·rw [if_pos c6] at H
   have c6b0 := eq_true c6
   have c6b1 : decide ((ji4 : Int).toNat ≤ 281474976710656) = true := decide_eq_true c6
   clear c6
   obtain ⟨y112, hy112⟩ : ∃ y_ : List Bool, y_ = (List.replicate (ji4 : Int).toNat false) := ⟨_, rfl⟩
   replace H : (morphology_planeOf.l0 k a1 a2 a0_1 0 a0_0 a0_1 l0_2 (wrap64 (a0_0 + (wrap64 (2 * a1)))) (wrap64 (a0_1 + (wrap64 (2 * a2)))) a1 a2 y112) = some (r1, r2, r3, r4, r5) := by first | (rw [hy112]; with_reducible exact H) | (have H2_ := (Option.bind_some _ _).symm.trans H; rw [hy112]; with_reducible exact H2_) | (have H2_ := (Option.bind_some _ _).symm.trans H; with_reducible exact H2_) | with_reducible exact H | (rw [hy112]; exact H) | exact H
   have Ny112 := Aside0.mk hy112
   clear hy112
   have H' := Aside0.mk H
   clear H
   go_enter Try.func36, Try.ntmps36
   go_wp2_with (first | ((with_reducible refine gate_dst (N := 3) rfl ?_); refine box_event ?hg (N := 3) ?hd (cs := #[.int .i64 a0_0, .int .i64 a0_1, .slice A0_2 l0_2.length c0_2]) (t := 24) ?hr ?_; (case hd => rfl); (case hg => rfl); (case hr => first | (go_simp; done) | (go_simp; rfl)); intro gb109 hg w7 hbox hb; have n0_ := Aside0.mk (below_step (hb0 HB) hb); have n1_ := Aside0.mk (hbox); have n2_ := Aside0.mk ((by rw [hg]; exact (below_size (hb0 HB)) : w.heap.size ≤ gb109)); have n3_ := Aside0.mk ((by rw [hg]; exact (below_size (hb0 HB)) : w.heap.size ≤ gb109)); clear HB; have HB := n0_; have BK109 := n1_; have GW109 := n2_; have GE109 := n3_; clear n0_ n1_ n2_ n3_; clear hb hbox hg) | ((with_reducible refine gate_dst (N := 6) rfl ?_); refine box_event ?hg (N := 6) ?hd (cs := #[.int .i64 0, .int .i64 0, .int .i64 0, .int .i64 0, .slice none 0 0]) (t := 50) ?hr ?_; (case hd => rfl); (case hg => rfl); (case hr => first | (go_simp; done) | (go_simp; rfl)); intro gb110 hg w8 hbox hb; have n0_ := Aside0.mk (blk_below (bkx BK109) hb); have n1_ := Aside0.mk (below_step (hb1 HB GE109) hb); have n2_ := Aside0.mk (hbox); have n3_ := Aside0.mk ((by rw [hg]; exact (below_size (hb1 HB GE109)) : w.heap.size ≤ gb110)); have n4_ := Aside0.mk ((by rw [hg]; exact (below_size (hb1 HB GE109)) : w.heap.size ≤ gb110)); have n5_ := Aside0.mk (nel hg BK109 : gb109 ≠ gb110); have n6_ := Aside0.mk (neg hg BK109 : gb110 ≠ gb109); clear BK109; clear HB; have BK109 := n0_; have HB := n1_; have BK110 := n2_; have GW110 := n3_; have GE110 := n4_; have NB109_110 := n5_; have NB110_109 := n6_; clear n0_ n1_ n2_ n3_ n4_ n5_ n6_; clear hb hbox hg; have hnb9 := NB109_110.out; have hnc9 := NB110_109.out; have hcz10_0 : w8.cell? ⟨gb109, 0, none⟩ = some (.int .i64 a0_0) := (blk_cell BK109.out 0).trans rfl; have hcz10_1 : w8.cell? ⟨gb109, 1, none⟩ = some (.int .i64 a0_1) := (blk_cell BK109.out 1).trans rfl; have hcz10_2 : w8.cell? ⟨gb109, 2, none⟩ = some (.slice A0_2 l0_2.length c0_2) := (blk_cell BK109.out 2).trans rfl; have hfz10_0 := blk_frozen BK109.out 0; have hfz10_1 := blk_frozen BK109.out 1; have hfz10_2 := blk_frozen BK109.out 2) | ((with_reducible refine gate_dst (N := 7) rfl ?_); refine box_event ?hg (N := 7) ?hd (cs := #[.int .i64 0, .int .i64 0, .int .i64 0, .int .i64 0, .slice none 0 0]) (t := 50) ?hr ?_; (case hd => rfl); (case hg => rfl); (case hr => first | (go_simp; done) | (go_simp; rfl)); intro gb111 hg w11 hbox hb; have n0_ := Aside0.mk (blk_below (bkx BK109) hb); have n1_ := Aside0.mk (blk_below (bkx BK110) hb); have n2_ := Aside0.mk (below_step (hb2 HB GE109 GE110) hb); have n3_ := Aside0.mk (hbox); have n4_ := Aside0.mk ((by rw [hg]; exact (below_size (hb2 HB GE109 GE110)) : w.heap.size ≤ gb111)); have n5_ := Aside0.mk ((by rw [hg]; exact (below_size (hb2 HB GE109 GE110)) : w.heap.size ≤ gb111)); have n6_ := Aside0.mk (nel hg BK109 : gb109 ≠ gb111); have n7_ := Aside0.mk (neg hg BK109 : gb111 ≠ gb109); have n8_ := Aside0.mk (nel hg BK110 : gb110 ≠ gb111); have n9_ := Aside0.mk (neg hg BK110 : gb111 ≠ gb110); clear BK109; clear BK110; clear HB; have BK109 := n0_; have BK110 := n1_; have HB := n2_; have BK111 := n3_; have GW111 := n4_; have GE111 := n5_; have NB109_111 := n6_; have NB111_109 := n7_; have NB110_111 := n8_; have NB111_110 := n9_; clear n0_ n1_ n2_ n3_ n4_ n5_ n6_ n7_ n8_ n9_; clear hb hbox hg; have hnb12 := NB111_109.out; have hnc12 := NB109_111.out; have hnb13 := NB111_110.out; have hnc13 := NB110_111.out; have hcz14_0 : w11.cell? ⟨gb111, 0, none⟩ = some (.int .i64 0) := (blk_cell BK111.out 0).trans rfl; have hcz14_1 : w11.cell? ⟨gb111, 1, none⟩ = some (.int .i64 0) := (blk_cell BK111.out 1).trans rfl; have hcz14_2 : w11.cell? ⟨gb111, 2, none⟩ = some (.int .i64 0) := (blk_cell BK111.out 2).trans rfl; have hcz14_3 : w11.cell? ⟨gb111, 3, none⟩ = some (.int .i64 0) := (blk_cell BK111.out 3).trans rfl; have hcz14_4 : w11.cell? ⟨gb111, 4, none⟩ = some (.slice none 0 0) := (blk_cell BK111.out 4).trans rfl; have hfz14_0 := blk_frozen BK111.out 0; have hfz14_1 := blk_frozen BK111.out 1; have hfz14_2 := blk_frozen BK111.out 2; have hfz14_3 := blk_frozen BK111.out 3; have hfz14_4 := blk_frozen BK111.out 4) | ((with_reducible refine gate_dst (N := 27) rfl ?_); refine Kd.R_make Kd.bool _ 4 rfl (N := 27) rfl 22 _ _ rfl ji4 rfl rfl Try.underlying22 (.bool false) 1 info4 rfl (by decide) (by omega) false (ok := fun _ => True) (okp := fun _ => True) rfl (fun _ hk => hk) trivial (of_decide_eq_true (by first | (with_reducible assumption) | assumption)) (Nat.le_trans (Nat.mul_le_mul_right _ (of_decide_eq_true (by first | (with_reducible assumption) | assumption) : ji4.toNat ≤ 281474976710656)) (by omega)) (Below.refl _ _) (Nat.le_refl _) ?_; intro v113 w15 ho16 hb hg_ hnew_; clear hg_ hnew_; (first | rw [← Ny112.out] at ho16 | (simp only [Int.reduceToNat] at ho16; rw [← Ny112.out] at ho16)); have n0_ := Aside0.mk (Kd.R_lower ho16 (below_size (hb3 HB GE109 GE110 GE111))); have n1_ := Aside0.mk (blk_below (g := gb109) (o := .cells #[.int .i64 a0_0, .int .i64 a0_1, .slice A0_2 l0_2.length c0_2] 24 (0, 0)) (bky BK109 NB109_111) hb); have n2_ := Aside0.mk (blk_below (g := gb110) (o := .cells #[.int .i64 0, .int .i64 0, .int .i64 0, .int .i64 0, .slice none 0 0] 50 (0, 0)) (bky BK110 NB110_111) hb); have n3_ := Aside0.mk (blk_below (g := gb111) (o := .cells #[.int .i64 (wrap64 (a0_0 + (wrap64 (2 * a1)))), .int .i64 (wrap64 (a0_1 + (wrap64 (2 * a2)))), .int .i64 a1, .int .i64 a2, .slice none 0 0] 50 (0, 0)) (by refine bkt ?_; refine blk_put (cs := #[.int .i64 (wrap64 (a0_0 + (wrap64 (2 * a1)))), .int .i64 (wrap64 (a0_1 + (wrap64 (2 * a2)))), .int .i64 a1, .int .i64 a2, .slice none 0 0]) ?_ 4 _ rfl; refine bkt ?_; refine blk_put (cs := #[.int .i64 (wrap64 (a0_0 + (wrap64 (2 * a1)))), .int .i64 (wrap64 (a0_1 + (wrap64 (2 * a2)))), .int .i64 a1, .int .i64 0, .slice none 0 0]) ?_ 3 _ rfl; refine bkt ?_; refine blk_put (cs := #[.int .i64 (wrap64 (a0_0 + (wrap64 (2 * a1)))), .int .i64 (wrap64 (a0_1 + (wrap64 (2 * a2)))), .int .i64 0, .int .i64 0, .slice none 0 0]) ?_ 2 _ rfl; refine bkt ?_; refine blk_put (cs := #[.int .i64 (wrap64 (a0_0 + (wrap64 (2 * a1)))), .int .i64 0, .int .i64 0, .int .i64 0, .slice none 0 0]) ?_ 1 _ rfl; refine bkt ?_; refine blk_put (cs := #[.int .i64 0, .int .i64 0, .int .i64 0, .int .i64 0, .slice none 0 0]) ?_ 0 _ rfl; refine bkt ?_; exact BK111.out) hb); have n4_ := Aside0.mk (below_step (hb3 HB GE109 GE110 GE111) hb); clear BK109; clear BK110; clear BK111; clear HB; have HO114 := n0_; have BK109 := n1_; have BK110 := n2_; have BK111 := n3_; have HB := n4_; clear n0_ n1_ n2_ n3_ n4_; clear hb ho16; obtain ⟨Ao17, co17, eo17⟩ := Kd.R_slice HO114.out; subst eo17; have hcz18_0 : w15.cell? ⟨gb111, 0, none⟩ = some (.int .i64 (wrap64 (a0_0 + (wrap64 (2 * a1))))) := (blk_cell BK111.out 0).trans rfl; have hcz18_1 : w15.cell? ⟨gb111, 1, none⟩ = some (.int .i64 (wrap64 (a0_1 + (wrap64 (2 * a2))))) := (blk_cell BK111.out 1).trans rfl; have hcz18_2 : w15.cell? ⟨gb111, 2, none⟩ = some (.int .i64 a1) := (blk_cell BK111.out 2).trans rfl; have hcz18_3 : w15.cell? ⟨gb111, 3, none⟩ = some (.int .i64 a2) := (blk_cell BK111.out 3).trans rfl; have hcz18_4 : w15.cell? ⟨gb111, 4, none⟩ = some (.slice none 0 0) := (blk_cell BK111.out 4).trans rfl; have hfz18_0 := blk_frozen BK111.out 0; have hfz18_1 := blk_frozen BK111.out 1; have hfz18_2 := blk_frozen BK111.out 2; have hfz18_3 := blk_frozen BK111.out 3; have hfz18_4 := blk_frozen BK111.out 4; have hcz19_0 : w15.cell? ⟨gb109, 0, none⟩ = some (.int .i64 a0_0) := (blk_cell BK109.out 0).trans rfl; have hcz19_1 : w15.cell? ⟨gb109, 1, none⟩ = some (.int .i64 a0_1) := (blk_cell BK109.out 1).trans rfl; have hcz19_2 : w15.cell? ⟨gb109, 2, none⟩ = some (.slice A0_2 l0_2.length c0_2) := (blk_cell BK109.out 2).trans rfl; have hfz19_0 := blk_frozen BK109.out 0; have hfz19_1 := blk_frozen BK109.out 1; have hfz19_2 := blk_frozen BK109.out 2))
   go_loopg [31] k (fun kq v31 w' => ∃ (x31_1 : Int) (x112004_1 : List Bool) (u112004 : Value), v31 = .int .i64 x31_1 ∧ Aside0 (morphology_planeOf.l0 kq a1 a2 a0_1 x31_1 a0_0 a0_1 l0_2 (wrap64 (a0_0 + (wrap64 (2 * a1)))) (wrap64 (a0_1 + (wrap64 (2 * a2)))) a1 a2 x112004_1 = some (r1, r2, r3, r4, r5)) ∧ Aside0 (kq ≤ k) ∧ Aside0 (Kd.R Kd.bool 4 w' w.heap.size (fun _ => True) u112004 x112004_1) ∧ Aside0 (w'.heap[gb109]? = some (.cells #[.int .i64 a0_0, .int .i64 a0_1, (.slice A0_2 l0_2.length c0_2)] 24 (0, 0))) ∧ Aside0 (w'.heap[gb110]? = some (.cells #[.int .i64 0, .int .i64 0, .int .i64 0, .int .i64 0, (.slice none 0 0)] 50 (0, 0))) ∧ Aside0 (w'.heap[gb111]? = some (.cells #[.int .i64 (wrap64 (a0_0 + (wrap64 (2 * a1)))), .int .i64 (wrap64 (a0_1 + (wrap64 (2 * a2)))), .int .i64 a1, .int .i64 a2, u112004] 50 (0, 0))) ∧ Aside0 (Below w.heap.size w w'))
   case atStart => exact ⟨(0), (y112), (.slice Ao17 y112.length co17), (by first | rfl | (simp; done) | (simp [*]; done)), H', ⟨Nat.le_refl _⟩, ⟨by refine rkt ?_; exact Kd.R_mono (Kd.R_far (p := ⟨gb111, 4, none⟩) (Kd.R_types HO114.out BK111.out (by decide)) (fun _ hk => hk.2) (.slice Ao17 y112.length co17)) (fun _ hk => trivial)⟩, ⟨bky BK109 NB109_111⟩, ⟨bky BK110 NB110_111⟩, ⟨by refine bkt ?_; refine blk_put (cs := #[.int .i64 (wrap64 (a0_0 + (wrap64 (2 * a1)))), .int .i64 (wrap64 (a0_1 + (wrap64 (2 * a2)))), .int .i64 a1, .int .i64 a2, .slice none 0 0]) ?_ 4 _ rfl; refine bkt ?_; exact BK111.out⟩, ⟨hb3 HB GE109 GE110 GE111⟩⟩
   case round =>
    clear H'
    try clear c1
    try clear p2
    try clear c3
    try clear c5
    try clear c5b0
    try clear c5b1
    try clear c6
    try clear c6b0
    try clear c6b1
    try clear p6
    try clear c9
    try clear c12
    try clear c13
    try clear hcz10_0
    try clear hcz10_1
    try clear hcz10_2
    try clear hcz14_0
    try clear hcz14_1
    try clear hcz14_2
    try clear hcz14_3
    try clear hcz14_4
    try clear hcz18_0
    try clear hcz18_1
    try clear hcz18_2
    try clear hcz18_3
    try clear hcz18_4
    try clear hcz19_0
    try clear hcz19_1
    try clear hcz19_2
    try clear hfz10_0
    try clear hfz10_1
    try clear hfz10_2
    try clear hfz14_0
    try clear hfz14_1
    try clear hfz14_2
    try clear hfz14_3
    try clear hfz14_4
    try clear hfz18_0
    try clear hfz18_1
    try clear hfz18_2
    try clear hfz18_3
    try clear hfz18_4
    try clear hfz19_0
    try clear hfz19_1
    try clear hfz19_2
    obtain ⟨x31_1, x112004_1, u112004, rfl, HA, HK1, HO_112004, BK109, BK110, BK111, HB⟩ := hrel
    cases gk with
    | zero => exact absurd HA.out (by simp [morphology_planeOf.l0])
    | succ k1 =>
     have H := HA.out
     clear HA
     simp only [morphology_planeOf.l0] at H
     by_cases c20 : x31_1 < a0_1
     ·rw [if_pos c20] at H
      have c20b0 : decide (x31_1 < a0_1) = true := decide_eq_true c20
      clear c20
      obtain ⟨ji21, hji21⟩ : ∃ j_ : Int, (wrap64 ((wrap64 ((wrap64 (x31_1 + a2)) * (wrap64 (a0_0 + (wrap64 (2 * a1)))))) + a1)) = j_ := ⟨_, rfl⟩
      replace H : (if 0 ≤ (ji21) then (if (ji21) ≤ (x112004_1.length : Int) then (if 0 ≤ (wrap64 (x31_1 * a0_0)) then (if (wrap64 (x31_1 * a0_0)) ≤ (wrap64 ((wrap64 (x31_1 + 1)) * a0_0)) then (if (wrap64 ((wrap64 (x31_1 + 1)) * a0_0)) ≤ (l0_2.length : Int) then (morphology_planeOf.l0 k1 a1 a2 a0_1 (wrap64 (x31_1 + 1)) a0_0 a0_1 l0_2 (wrap64 (a0_0 + (wrap64 (2 * a1)))) (wrap64 (a0_1 + (wrap64 (2 * a2)))) a1 a2 (copyIn x112004_1 (((ji21) : Int).toNat) (x112004_1.length - ((ji21) : Int).toNat) ((l0_2.take ((wrap64 ((wrap64 (x31_1 + 1)) * a0_0)) : Int).toNat).drop ((wrap64 (x31_1 * a0_0)) : Int).toNat))) else (none)) else (none)) else (none)) else (none)) else (none)) = some (r1, r2, r3, r4, r5) := by first | (rw [hji21] at H; exact H) | (simp only [hji21] at H ⊢; exact H)
      have hji21w : (IntKind.i64.wrap ((wrap64 ((wrap64 (x31_1 + a2)) * (wrap64 (a0_0 + (wrap64 (2 * a1)))))) + a1)) = ji21 := (i64_w _).trans hji21
      by_cases c22 : 0 ≤ (ji21)
      ·rw [if_pos c22] at H
       have c22b0 := eq_true c22
       have c22b1 : decide (0 ≤ (ji21)) = true := decide_eq_true c22
       clear c22
       by_cases c23 : (ji21) ≤ (x112004_1.length : Int)
       ·rw [if_pos c23] at H
        have c23b0 := eq_true c23
        have c23b1 : decide ((ji21) ≤ (x112004_1.length : Int)) = true := decide_eq_true c23
        clear c23
        obtain ⟨y115, hy115⟩ : ∃ y_ : List Bool, y_ = (x112004_1.drop ((ji21) : Int).toNat) := ⟨_, rfl⟩
        replace H : (if 0 ≤ (wrap64 (x31_1 * a0_0)) then (if (wrap64 (x31_1 * a0_0)) ≤ (wrap64 ((wrap64 (x31_1 + 1)) * a0_0)) then (if (wrap64 ((wrap64 (x31_1 + 1)) * a0_0)) ≤ (l0_2.length : Int) then (morphology_planeOf.l0 k1 a1 a2 a0_1 (wrap64 (x31_1 + 1)) a0_0 a0_1 l0_2 (wrap64 (a0_0 + (wrap64 (2 * a1)))) (wrap64 (a0_1 + (wrap64 (2 * a2)))) a1 a2 (copyIn x112004_1 (((ji21) : Int).toNat) (x112004_1.length - ((ji21) : Int).toNat) ((l0_2.take ((wrap64 ((wrap64 (x31_1 + 1)) * a0_0)) : Int).toNat).drop ((wrap64 (x31_1 * a0_0)) : Int).toNat))) else (none)) else (none)) else (none)) = some (r1, r2, r3, r4, r5) := by first | (rw [hy115]; with_reducible exact H) | (have H2_ := (Option.bind_some _ _).symm.trans H; rw [hy115]; with_reducible exact H2_) | (have H2_ := (Option.bind_some _ _).symm.trans H; with_reducible exact H2_) | with_reducible exact H | (rw [hy115]; exact H) | exact H
        have Ny115 := Aside0.mk hy115
        clear hy115
        obtain ⟨ji24, hji24⟩ : ∃ j_ : Int, (wrap64 (x31_1 * a0_0)) = j_ := ⟨_, rfl⟩
        replace H : (if 0 ≤ (ji24) then (if (ji24) ≤ (wrap64 ((wrap64 (x31_1 + 1)) * a0_0)) then (if (wrap64 ((wrap64 (x31_1 + 1)) * a0_0)) ≤ (l0_2.length : Int) then (morphology_planeOf.l0 k1 a1 a2 a0_1 (wrap64 (x31_1 + 1)) a0_0 a0_1 l0_2 (wrap64 (a0_0 + (wrap64 (2 * a1)))) (wrap64 (a0_1 + (wrap64 (2 * a2)))) a1 a2 (copyIn x112004_1 (((ji21) : Int).toNat) (x112004_1.length - ((ji21) : Int).toNat) ((l0_2.take ((wrap64 ((wrap64 (x31_1 + 1)) * a0_0)) : Int).toNat).drop ((ji24) : Int).toNat))) else (none)) else (none)) else (none)) = some (r1, r2, r3, r4, r5) := by first | (rw [hji24] at H; exact H) | (simp only [hji24] at H ⊢; exact H)
        have hji24w : (IntKind.i64.wrap (x31_1 * a0_0)) = ji24 := (i64_w _).trans hji24
        by_cases c25 : 0 ≤ (ji24)
        ·rw [if_pos c25] at H
         have c25b0 := eq_true c25
         have c25b1 : decide (0 ≤ (ji24)) = true := decide_eq_true c25
         clear c25
         by_cases c26 : (ji24) ≤ (wrap64 ((wrap64 (x31_1 + 1)) * a0_0))
         ·rw [if_pos c26] at H
          have c26b0 := eq_true c26
          have c26b1 : decide ((ji24) ≤ (wrap64 ((wrap64 (x31_1 + 1)) * a0_0))) = true := decide_eq_true c26
          by_cases c27 : (wrap64 ((wrap64 (x31_1 + 1)) * a0_0)) ≤ (l0_2.length : Int)
          ·rw [if_pos c27] at H
           have c27b0 := eq_true c27
           have c27b1 : decide ((wrap64 ((wrap64 (x31_1 + 1)) * a0_0)) ≤ (l0_2.length : Int)) = true := decide_eq_true c27
           obtain ⟨y120, hy120⟩ : ∃ y_ : List Bool, y_ = (copyIn x112004_1 (((ji21) : Int).toNat) (x112004_1.length - ((ji21) : Int).toNat) ((l0_2.take ((wrap64 ((wrap64 (x31_1 + 1)) * a0_0)) : Int).toNat).drop ((ji24) : Int).toNat)) := ⟨_, rfl⟩
           replace H : (morphology_planeOf.l0 k1 a1 a2 a0_1 (wrap64 (x31_1 + 1)) a0_0 a0_1 l0_2 (wrap64 (a0_0 + (wrap64 (2 * a1)))) (wrap64 (a0_1 + (wrap64 (2 * a2)))) a1 a2 y120) = some (r1, r2, r3, r4, r5) := by first | (rw [hy120]; with_reducible exact H) | (have H2_ := (Option.bind_some _ _).symm.trans H; rw [hy120]; with_reducible exact H2_) | (have H2_ := (Option.bind_some _ _).symm.trans H; with_reducible exact H2_) | with_reducible exact H | (rw [hy120]; exact H) | exact H
           have Ny120 := Aside0.mk hy120
           clear hy120
           have H' := Aside0.mk H
           clear H
           try go_wp2
           have n0_ := Aside0.mk (Kd.R_drew HO_112004.out)
           have n1_ := Aside0.mk (blk_drew BK109.out)
           have n2_ := Aside0.mk (blk_drew BK110.out)
           have n3_ := Aside0.mk (blk_drew BK111.out)
           have n4_ := Aside0.mk (below_drew1 HB.out)
           clear HO_112004
           clear BK109
           clear BK110
           clear BK111
           clear HB
           have HO_112004 := n0_
           have BK109 := n1_
           have BK110 := n2_
           have BK111 := n3_
           have HB := n4_
           clear n0_ n1_ n2_ n3_ n4_
           obtain ⟨Ao30, co30, eo30⟩ := Kd.R_slice HO_112004.out
           (first | subst eo30 | (injection eo30 with f1_ f2_ f3_; have f4_ := f1_.symm; have f5_ := f3_.symm; clear f1_ f2_ f3_; subst f4_; subst f5_))
           have q29 : ((ji21) : Int) ≤ ((x112004_1.length : Int) : Int) := of_decide_eq_true (by first | (with_reducible assumption) | assumption)
           obtain ⟨i029, hi029, _, hsz29, _⟩ := info_parts info4
           have hroom29 : x112004_1.length ≤ co30 := (Kd.R_reads' HO_112004.out).2.1
           have hC29 : Kd.C Kd.bool _ Ao30 x112004_1.length x112004_1 := (Kd.R_reads' HO_112004.out).2.2
           have q029 : (0 : Int) ≤ ((ji21) : Int) := of_decide_eq_true (by first | (with_reducible assumption) | assumption)
           have hcut29 := cut_from (P := Try.prog) 22 4 .i64 Try.underlying22 hi029 1 hsz29 Ao30 x112004_1.length co30 (ji21) q029 q29
           have hr29 := Kd.C_drop (m := ((ji21) : Int).toNat) (c := co30) hC29 (by omega) hroom29
           obtain ⟨A29, hA29⟩ : ∃ A1, A1 = (if co30 = ((ji21) : Int).toNat then Ao30 else (Ao30 : Option Addr).map (·.add (((ji21) : Int).toNat * 1))) := ⟨_, rfl⟩
           obtain ⟨c29, hc29⟩ : ∃ c1, c1 = co30 - ((ji21) : Int).toNat := ⟨_, rfl⟩
           have hy29 : y115.length = x112004_1.length - ((ji21) : Int).toNat := (by rw [Ny115.out, List.length_drop] <;> omega)
           rw [show (x112004_1).drop ((ji21) : Int).toNat = y115 from Ny115.out.symm] at hr29
           replace hr29 : Kd.C Kd.bool _ A29 y115.length y115 := (by rw [hA29]; exact hr29)
           rw [← hy29, ← hA29, ← hc29] at hcut29
           have HR118 := Aside0.mk hr29
           have HC118 := Aside0.mk (show y115.length ≤ c29 from by rw [hy29, hc29]; exact Nat.sub_le_sub_right hroom29 _)
           clear hr29 hC29 hroom29 hi029 hsz29 hc29
           have KY29 := Aside0.mk hy29
           have KA29 := Aside0.mk hA29
           clear hy29 hA29
           have KL29 := Aside0.mk (show ((ji21) : Int).toNat ≤ x112004_1.length from by omega)
           replace q29 := eq_true q29
           obtain ⟨i031, hi031, _, hsz31, _⟩ := info_parts info4
           obtain ⟨A31, hcut31, hA31, hC31⟩ := print_mid_of (P := Try.prog) Value.bool false 22 4 .i64 .i64 Try.underlying22 hi031 hsz31 A0_2 c0_2 l0_2 (ji24) (wrap64 ((wrap64 (x31_1 + 1)) * a0_0)) (of_decide_eq_true (by first | (with_reducible assumption) | assumption)) (by first | omega | exact of_decide_eq_true (by first | (with_reducible assumption) | assumption)) (of_decide_eq_true (by first | (with_reducible assumption) | assumption)) HC0_2.out
           have HR119 := Aside0.mk (Kd.C_of_reads (h1 := fun _ => rfl) (hA31 _ (Kd.reads_of_C HR0_2.out)))
           have HC119 := Aside0.mk hC31
           clear hA31 hC31 hi031 hsz31
           refine start_ (n := 24) (S := fun w' => w'.cell? ⟨gb111, 0, none⟩ = some (.int .i64 (wrap64 (a0_0 + (wrap64 (2 * a1))))) ∧ w'.cell? ⟨gb111, 1, none⟩ = some (.int .i64 (wrap64 (a0_1 + (wrap64 (2 * a2))))) ∧ w'.cell? ⟨gb111, 2, none⟩ = some (.int .i64 a1) ∧ w'.cell? ⟨gb111, 3, none⟩ = some (.int .i64 a2) ∧ w'.cell? ⟨gb111, 4, none⟩ = some (.slice Ao30 x112004_1.length co30) ∧ w'.cell? ⟨gb109, 0, none⟩ = some (.int .i64 a0_0) ∧ w'.cell? ⟨gb109, 1, none⟩ = some (.int .i64 a0_1) ∧ w'.cell? ⟨gb109, 2, none⟩ = some (.slice A0_2 l0_2.length c0_2)) (ds := []) (bA 24 0) (by kernel_rfl) rfl rfl ⟨(blk_cell BK111.out 0).trans rfl, (blk_cell BK111.out 1).trans rfl, (blk_cell BK111.out 2).trans rfl, (blk_cell BK111.out 3).trans rfl, (blk_cell BK111.out 4).trans rfl, (blk_cell BK109.out 0).trans rfl, (blk_cell BK109.out 1).trans rfl, (blk_cell BK109.out 2).trans rfl⟩ (fun hHeld => ?_); refine with_tabW morphology_planeOf.tab6 morphology_planeOf.bits6 (fun HT_ HW_ => ?_)
           generalize wr.drew = w28 at HO_112004 BK109 BK110 BK111 HB HR118 HR119 hHeld ⊢
           refine pt HT_ 0 34 ?_
           refine pt HT_ 2 36 ?_
           refine pt HT_ 3 37 ?_
           refine pt HT_ 4 38 ?_
           refine pt HT_ 5 39 ?_
           refine pt HT_ 8 42 ?_
           refine pt HT_ 11 45 ?_
           refine pt HT_ 13 47 ?_
           refine pt HT_ 14 48 ?_
           refine pt HT_ 17 51 ?_
           refine pt HT_ 18 52 ?_
           refine pt HT_ 19 53 ?_
           refine tk HT_ HW_ hHeld 1 35 ?_
           refine tk HT_ HW_ hHeld 6 40 ?_
           refine pt HT_ 7 41 ?_
           refine pt HT_ 9 43 ?_
           refine pt HT_ 10 44 ?_
           refine tk HT_ HW_ hHeld 12 46 ?_
           refine tk HT_ HW_ hHeld 15 49 ?_
           refine pt HT_ 16 50 ?_
           refine tk HT_ HW_ hHeld 20 54 ?_
           refine pt HT_ 21 55 ?_
           refine pt HT_ 22 56 ?_
           refine one_ (i := 23) (N := some 57) (bA 24 16777215) rfl rfl (one_of HT_.out (by kernel_rfl)) (by decide) (fun K hK => ?_)
           refine R_copyin_step (enc := Value.bool) (h1 := fun _ => rfl) (xs := x112004_1) (A0 := Ao30) (n0 := x112004_1.length) (c0 := co30) (w0 := w) (ok := (fun _ => True)) w.heap.size (by rfl) (.tmp 44) (.tmp 56) 22 22 4 rfl Try.underlying22 (by kernel_rfl) (((ji21) : Int).toNat) ((l0_2.take ((wrap64 ((wrap64 (x31_1 + 1)) * a0_0)) : Int).toNat).drop ((ji24) : Int).toNat) rfl rfl ?hA ?hm ?hO ?hR (hb3 HB GE109 GE110 GE111) (below_size (hb3 HB GE109 GE110 GE111)) ?_
           (case hA => exact KA29.out)
           (case hm => have ha_ := KY29.out; have hb_ := KL29.out; have hc_ := (Kd.R_reads' HO_112004.out).1; omega)
           (case hO => exact (rkx HO_112004))
           (case hR => first | (rw [← show ((l0_2.take ((wrap64 ((wrap64 (x31_1 + 1)) * a0_0)) : Int).toNat).drop ((ji24) : Int).toNat).length = ((wrap64 ((wrap64 (x31_1 + 1)) * a0_0)).toNat - (ji24).toNat) from (by rw [List.length_drop, List.length_take]; have h_ : ((wrap64 ((wrap64 (x31_1 + 1)) * a0_0)) : Int) ≤ (l0_2.length : Int) := of_decide_eq_true (by first | (with_reducible assumption) | assumption); omega)]; repeat (first | exact (Kd.C_below HR119.out HB.out) | (with_reducible refine Kd.C_alloc ?_ _) | (with_reducible refine Kd.C_drewN ?_ _) | (with_reducible refine Kd.C_drew ?_))) | (repeat (first | exact (Kd.C_below HR119.out HB.out) | (with_reducible refine Kd.C_alloc ?_ _) | (with_reducible refine Kd.C_drewN ?_ _) | (with_reducible refine Kd.C_drew ?_))))
           intro w32 q_ ho hb hg
           have hm_ : y115.length = x112004_1.length - ((ji21) : Int).toNat := (by have ha_ := KY29.out; have hb_ := KL29.out; have hc_ := (Kd.R_reads' HO_112004.out).1; omega)
           rw [hm_, ← Ny120.out] at ho
           clear hm_
           have n0_ := Aside0.mk (ho)
           have n1_ := Aside0.mk (blk_grown (g := gb109) (o := .cells #[.int .i64 a0_0, .int .i64 a0_1, .slice A0_2 l0_2.length c0_2] 24 (0, 0)) (bkx BK109) hg (Kd.R_ne HO_112004.out BK109.out (by decide)))
           have n2_ := Aside0.mk (blk_grown (g := gb110) (o := .cells #[.int .i64 0, .int .i64 0, .int .i64 0, .int .i64 0, .slice none 0 0] 50 (0, 0)) (bkx BK110) hg (Kd.R_ne HO_112004.out BK110.out (by decide)))
           have n3_ := Aside0.mk (blk_grown (g := gb111) (o := .cells #[.int .i64 (wrap64 (a0_0 + (wrap64 (2 * a1)))), .int .i64 (wrap64 (a0_1 + (wrap64 (2 * a2)))), .int .i64 a1, .int .i64 a2, .slice Ao30 x112004_1.length co30] 50 (0, 0)) (bkx BK111) hg (Kd.R_ne HO_112004.out BK111.out (by decide)))
           have n4_ := Aside0.mk (hb)
           clear HO_112004
           clear BK109
           clear BK110
           clear BK111
           clear HB
           have HO_112004 := n0_
           have BK109 := n1_
           have BK110 := n2_
           have BK111 := n3_
           have HB := n4_
           clear n0_ n1_ n2_ n3_ n4_
           clear ho hb hg
           refine hK.out _ _ ⟨(blk_cell BK111.out 0).trans rfl, (blk_cell BK111.out 1).trans rfl, (blk_cell BK111.out 2).trans rfl, (blk_cell BK111.out 3).trans rfl, (blk_cell BK111.out 4).trans rfl, (blk_cell BK109.out 0).trans rfl, (blk_cell BK109.out 1).trans rfl, (blk_cell BK109.out 2).trans rfl⟩ (fun hHeld => ?_)
           clear hK K
           refine norm_ (a' := ?_) ?_ ?_
           rotate_left
           ·show Act.put _ (some 57) _ = _
            simp only [Act.put, List.setIfInBounds_toArray, List.set_cons_zero, List.set_cons_succ, i64_w, i32_w]
            rfl
           refine done_ (done_of HT_.out (by kernel_rfl)) ?_
           try go_wp2
           go_roundg k1
           case measure => have := HK1.out; omega
           case rel => exact ⟨(wrap64 (x31_1 + 1)), (y120), (.slice Ao30 x112004_1.length co30), (by first | rfl | (simp; done) | (simp [*]; done)), H', ⟨by have := HK1.out; omega⟩, ⟨rkx HO_112004⟩, ⟨bkx BK109⟩, ⟨bkx BK110⟩, ⟨bkx BK111⟩, ⟨hb3 HB GE109 GE110 GE111⟩⟩
          ·rw [if_neg c27] at H
           exact absurd H (by simp)
         ·rw [if_neg c26] at H
          exact absurd H (by simp)
        ·rw [if_neg c25] at H
         exact absurd H (by simp)
       ·rw [if_neg c23] at H
        exact absurd H (by simp)
      ·rw [if_neg c22] at H
       exact absurd H (by simp)
     ·rw [if_neg c20] at H
      have c20b0 : decide (x31_1 < a0_1) = false := decide_eq_false c20
      clear c20
      simp only [Option.some.injEq, Prod.mk.injEq] at H
      obtain ⟨rfl, rfl, rfl, rfl, rfl⟩ := H
      have hnb33 := NB111_109.out
      have hnc33 := NB109_111.out
      have hnb34 := NB111_110.out
      have hnc34 := NB110_111.out
      have hcz35_0 : wr.cell? ⟨gb111, 0, none⟩ = some (.int .i64 (wrap64 (a0_0 + (wrap64 (2 * a1))))) := (blk_cell BK111.out 0).trans rfl
      have hcz35_1 : wr.cell? ⟨gb111, 1, none⟩ = some (.int .i64 (wrap64 (a0_1 + (wrap64 (2 * a2))))) := (blk_cell BK111.out 1).trans rfl
      have hcz35_2 : wr.cell? ⟨gb111, 2, none⟩ = some (.int .i64 a1) := (blk_cell BK111.out 2).trans rfl
      have hcz35_3 : wr.cell? ⟨gb111, 3, none⟩ = some (.int .i64 a2) := (blk_cell BK111.out 3).trans rfl
      have hcz35_4 : wr.cell? ⟨gb111, 4, none⟩ = some (u112004) := (blk_cell BK111.out 4).trans rfl
      have hfz35_0 := blk_frozen BK111.out 0
      have hfz35_1 := blk_frozen BK111.out 1
      have hfz35_2 := blk_frozen BK111.out 2
      have hfz35_3 := blk_frozen BK111.out 3
      have hfz35_4 := blk_frozen BK111.out 4
      have hnb36 := NB110_109.out
      have hnc36 := NB109_110.out
      have hcz37_0 : wr.cell? ⟨gb110, 0, none⟩ = some (.int .i64 0) := (blk_cell BK110.out 0).trans rfl
      have hcz37_1 : wr.cell? ⟨gb110, 1, none⟩ = some (.int .i64 0) := (blk_cell BK110.out 1).trans rfl
      have hcz37_2 : wr.cell? ⟨gb110, 2, none⟩ = some (.int .i64 0) := (blk_cell BK110.out 2).trans rfl
      have hcz37_3 : wr.cell? ⟨gb110, 3, none⟩ = some (.int .i64 0) := (blk_cell BK110.out 3).trans rfl
      have hcz37_4 : wr.cell? ⟨gb110, 4, none⟩ = some (.slice none 0 0) := (blk_cell BK110.out 4).trans rfl
      have hfz37_0 := blk_frozen BK110.out 0
      have hfz37_1 := blk_frozen BK110.out 1
      have hfz37_2 := blk_frozen BK110.out 2
      have hfz37_3 := blk_frozen BK110.out 3
      have hfz37_4 := blk_frozen BK110.out 4
      obtain ⟨Ao38, co38, eo38⟩ := Kd.R_slice HO_112004.out
      subst eo38
      go_wp2
      refine bodyPost_ret (results_cell_row rfl _ _ gb110 50 #[.int .i64 (wrap64 (a0_0 + (wrap64 (2 * a1)))), .int .i64 (wrap64 (a0_1 + (wrap64 (2 * a2)))), .int .i64 a1, .int .i64 a2, .slice Ao38 x112004_1.length co38] (0, 0) _ rfl (by refine bkt ?_; refine blk_put (cs := #[.int .i64 (wrap64 (a0_0 + (wrap64 (2 * a1)))), .int .i64 (wrap64 (a0_1 + (wrap64 (2 * a2)))), .int .i64 a1, .int .i64 a2, .slice none 0 0]) ?_ 4 _ rfl; refine bkt ?_; refine blk_put (cs := #[.int .i64 (wrap64 (a0_0 + (wrap64 (2 * a1)))), .int .i64 (wrap64 (a0_1 + (wrap64 (2 * a2)))), .int .i64 a1, .int .i64 0, .slice none 0 0]) ?_ 3 _ rfl; refine bkt ?_; refine blk_put (cs := #[.int .i64 (wrap64 (a0_0 + (wrap64 (2 * a1)))), .int .i64 (wrap64 (a0_1 + (wrap64 (2 * a2)))), .int .i64 0, .int .i64 0, .slice none 0 0]) ?_ 2 _ rfl; refine bkt ?_; refine blk_put (cs := #[.int .i64 (wrap64 (a0_0 + (wrap64 (2 * a1)))), .int .i64 0, .int .i64 0, .int .i64 0, .slice none 0 0]) ?_ 1 _ rfl; refine bkt ?_; refine blk_put (cs := #[.int .i64 0, .int .i64 0, .int .i64 0, .int .i64 0, .slice none 0 0]) ?_ 0 _ rfl; refine bkt ?_; exact BK110.out) Try.underlying50 rfl (by kernel_rfl)) rfl ?_
      exact ⟨_, by first | rfl | (simp [errW_none, errW_some] <;> rfl) | (simp only [← hji4]; first | rfl | (simp [errW_none, errW_some] <;> rfl)) | (simp [*, errW_none, errW_some] <;> rfl), by refine rkt ?_; exact Kd.R_mono (Kd.R_far (p := ⟨gb110, 4, none⟩) (Kd.R_far (p := ⟨gb110, 3, none⟩) (Kd.R_far (p := ⟨gb110, 2, none⟩) (Kd.R_far (p := ⟨gb110, 1, none⟩) (Kd.R_far (p := ⟨gb110, 0, none⟩) (Kd.R_types HO_112004.out BK110.out (by decide)) (fun _ hk => hk.2) (.int .i64 (wrap64 (a0_0 + (wrap64 (2 * a1)))))) (fun _ hk => hk.2) (.int .i64 (wrap64 (a0_1 + (wrap64 (2 * a2)))))) (fun _ hk => hk.2) (.int .i64 a1)) (fun _ hk => hk.2) (.int .i64 a2)) (fun _ hk => hk.2) (.slice Ao38 x112004_1.length co38)) (fun _ hk => trivial), by repeat (first | (with_reducible first | exact HB.out | apply below_alloc | apply pw_below_drewN | apply below_drew1 | refine below_set ?_ GE109.out | refine below_set ?_ GE110.out | refine below_set ?_ GE111.out) | exact HB.out)⟩
  ·rw [if_neg c6] at H
   exact absurd H (by simp)
 ·rw [if_neg c5] at H
  exact absurd H (by simp)

end Go.Proofs.Ytkakiblnhgpdnaa.PR
