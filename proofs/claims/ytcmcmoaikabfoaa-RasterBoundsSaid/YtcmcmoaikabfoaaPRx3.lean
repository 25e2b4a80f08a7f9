-- Written by this session's own program (myprint.py).
import Derived.Test.YtcmcmoaikabfoaaPRx0
import Derived.Test.YtcmcmoaikabfoaaPRx2
namespace Go.Proofs.Ytcmcmoaikabfoaa.PR
open Go.RowKit Go.Proofs.YtcmcmoaikabfoaaW.PrintWords Go.Proofs.YtcmcmoaikabfoaaW.PrintLast Go.Proofs.YtcmcmoaikabfoaaW.PrintMore Go.Proofs.Ytcmcmoaikabfoaa.XWords Go.Proofs.Ytcmcmoaikabfoaa.XShort
attribute [local go_sem] max2_int min2_int max_two min_two max_three min_three max_four min_four   -- for this text's walks alone
set_option linter.unusedVariables false
set_option linter.unusedSimpArgs false

/-! ### raster_Crop: function 14 -/
def raster_Crop.l0 : Nat → Int → Int → Int → Int → Int → Int → List Bool → Int → Int → Int → Int → Int → Int → List Bool → Option (Int × Int × List Bool × Int)
 | 0, _, _, _, _, _, _, _, _, _, _, _, _, _, _ => none
 | k + 1, x9, x10, x12, x13, x109000, x109001, x109002, x110000, x110001, x110002, x110003, x119000, x119001, x119002 => if x13 < x12 then (if x9 < x10 then (if 0 ≤ (wrap64 ((wrap64 ((wrap64 ((wrap64 (x13 - x110001)) * x110002)) + x9)) - x110000)) then (if (wrap64 ((wrap64 ((wrap64 ((wrap64 (x13 - x110001)) * x110002)) + x9)) - x110000)) ≤ (x119002.length : Int) then (if 0 ≤ (wrap64 ((wrap64 (x13 * x109000)) + x9)) then (if (wrap64 ((wrap64 (x13 * x109000)) + x9)) ≤ (wrap64 ((wrap64 (x13 * x109000)) + x10)) then (if (wrap64 ((wrap64 (x13 * x109000)) + x10)) ≤ (x109002.length : Int) then (raster_Crop.l0 k x9 x10 x12 (wrap64 (x13 + 1)) x109000 x109001 x109002 x110000 x110001 x110002 x110003 x119000 x119001 (copyIn x119002 (((wrap64 ((wrap64 ((wrap64 ((wrap64 (x13 - x110001)) * x110002)) + x9)) - x110000)) : Int).toNat) (x119002.length - ((wrap64 ((wrap64 ((wrap64 ((wrap64 (x13 - x110001)) * x110002)) + x9)) - x110000)) : Int).toNat) ((x109002.take ((wrap64 ((wrap64 (x13 * x109000)) + x10)) : Int).toNat).drop ((wrap64 ((wrap64 (x13 * x109000)) + x9)) : Int).toNat))) else (none)) else (none)) else (none)) else (none)) else (none)) else (some (x119000, x119001, x119002, 0))) else (some (x119000, x119001, x119002, 0))
def raster_Crop.f (k : Nat) (a0_0 : Int) (a0_1 : Int) (l0_2 : List Bool) (a1_0 : Int) (a1_1 : Int) (a1_2 : Int) (a1_3 : Int) : Option (Int × Int × List Bool × Int) := (raster_Check.f a0_0 a0_1 l0_2).bind fun t111 => (if t111 = 0 then ((raster_New.f a1_2 a1_3).bind fun bt112 => (if bt112.2.2.2 = 0 then ((raster_shared.f a1_0 a1_2 a0_0).bind fun bt119 => ((raster_shared.f a1_1 a1_3 a0_1).bind fun bt121 => (raster_Crop.l0 k bt119.1 bt119.2 bt121.2 bt121.1 a0_0 a0_1 l0_2 a1_0 a1_1 a1_2 a1_3 bt112.1 bt112.2.1 bt112.2.2.1))) else (some (0, 0, ([] : List Bool), bt112.2.2.2)))) else (some (0, 0, ([] : List Bool), t111)))
theorem raster_Crop.mono_l : ∀ k, (∀ y0 y1 y2 y3 y4 y5 y6 y7 y8 y9 y10 y11 y12 y13, LeO (raster_Crop.l0 k y0 y1 y2 y3 y4 y5 y6 y7 y8 y9 y10 y11 y12 y13) (raster_Crop.l0 (k + 1) y0 y1 y2 y3 y4 y5 y6 y7 y8 y9 y10 y11 y12 y13))
 | 0 => fun _ _ _ _ _ _ _ _ _ _ _ _ _ _ r h => by simp [raster_Crop.l0] at h
 | k + 1 => by
  have ih0 := raster_Crop.mono_l k
  ·intro y0 y1 y2 y3 y4 y5 y6 y7 y8 y9 y10 y11 y12 y13
   unfold raster_Crop.l0
   repeat' first
   | (with_reducible exact ih0 _ _ _ _ _ _ _ _ _ _ _ _ _ _)
   | (with_reducible exact LeO.refl _)
   | (with_reducible exact LeO.none _)
   | (with_reducible refine LeO.ite ?_ ?_)
   | (with_reducible refine LeO.bind ?_ (fun _ => ?_))
   | exact ih0 _ _ _ _ _ _ _ _ _ _ _ _ _ _
   | exact LeO.none _
   | refine LeO.ite ?_ ?_
   | refine LeO.bind ?_ (fun _ => ?_)
theorem raster_Crop.mono : ∀ a0 a1 a2 a3 a4 a5 a6 k, LeO (raster_Crop.f k a0 a1 a2 a3 a4 a5 a6) (raster_Crop.f (k + 1) a0 a1 a2 a3 a4 a5 a6) := by
 intro a0 a1 a2 a3 a4 a5 a6 k
 have ih0 := raster_Crop.mono_l k
 unfold raster_Crop.f
 repeat' first
   | (with_reducible exact ih0 _ _ _ _ _ _ _ _ _ _ _ _ _ _)
   | (with_reducible exact LeO.refl _)
   | (with_reducible exact LeO.none _)
   | (with_reducible refine LeO.ite ?_ ?_)
   | (with_reducible refine LeO.bind ?_ (fun _ => ?_))
   | exact ih0 _ _ _ _ _ _ _ _ _ _ _ _ _ _
   | exact LeO.none _
   | refine LeO.ite ?_ ?_
   | refine LeO.bind ?_ (fun _ => ?_)
def raster_Crop.T12 : Bool × List (List Nat × List Nat) := (true, [([], []), ([0], [0]), ([], []), ([], []), ([3], [3]), ([2, 4], [2, 4]), ([], []), ([6], [6]), ([5, 7], [5, 7]), ([], []), ([8, 9], [8, 9]), ([], []), ([11], [11]), ([10, 12], [10, 12]), ([1, 13], [1, 13]), ([], []), ([15], [15]), ([], []), ([], []), ([18], [18]), ([17, 19], [17, 19]), ([], []), ([20, 21], [20, 21]), ([], []), ([], []), ([24], [24]), ([23, 25], [23, 25]), ([], []), ([26, 27], [26, 27]), ([16, 22, 28], [16, 22, 28]), ([14, 29], [14, 29])])
def raster_Crop.B12 : List Nat := [0, 1, 0, 0, 8, 28, 0, 64, 252, 0, 1020, 0, 2048, 8188, 16383, 0, 32768, 0, 0, 262144, 917504, 0, 4063232, 0, 0, 16777216, 58720256, 0, 260046848, 536838144, 1073741823]
theorem raster_Crop.tab12 : rtab .any (opsOf Try.f14 12) = raster_Crop.T12 := by kernel_rfl
theorem raster_Crop.bits12 : waitsOk raster_Crop.T12.2 raster_Crop.B12 = true := by kernel_rfl
set_option maxHeartbeats 8000000 in
set_option maxRecDepth 100000 in
theorem raster_Crop.calls (k : Nat) (a0_0 : Int) (a0_1 : Int) (A0_2 : Option Addr) (c0_2 : Nat) (l0_2 : List Bool) (a1_0 : Int) (a1_1 : Int) (a1_2 : Int) (a1_3 : Int) (r1 : Int) (r2 : Int) (r3 : List Bool) (r4 : Int) (w : World) (hr0_2 : Kd.C Kd.bool w A0_2 l0_2.length l0_2) (hc0_2 : l0_2.length ≤ c0_2) (h : raster_Crop.f k a0_0 a0_1 l0_2 a1_0 a1_1 a1_2 a1_3 = some (r1, r2, r3, r4)) :
  Calls Try.prog 14 #[.agg #[.int .i64 a0_0, .int .i64 a0_1, .slice A0_2 l0_2.length c0_2], .agg #[.int .i64 a1_0, .int .i64 a1_1, .int .i64 a1_2, .int .i64 a1_3]] w fun e w' => ∃ v2_ : Value, e = .returned (.tuple #[.agg #[.int .i64 r1, .int .i64 r2, v2_], .int .i64 r4]) ∧ Kd.R Kd.bool 4 w' w.heap.size (fun _ => True) v2_ r3 ∧ Below w.heap.size w w' := by
 have hu24 := Try.underlying24
 have hu26 := Try.underlying26
 have HR0_2 := Aside0.mk hr0_2
 have HC0_2 := Aside0.mk hc0_2
 clear hr0_2 hc0_2
 have HB := Aside0.mk (Below.refl w.heap.size w)
 have H : ((raster_Check.f a0_0 a0_1 l0_2).bind fun t111 => (if t111 = 0 then ((raster_New.f a1_2 a1_3).bind fun bt112 => (if bt112.2.2.2 = 0 then ((raster_shared.f a1_0 a1_2 a0_0).bind fun bt119 => ((raster_shared.f a1_1 a1_3 a0_1).bind fun bt121 => (raster_Crop.l0 k bt119.1 bt119.2 bt121.2 bt121.1 a0_0 a0_1 l0_2 a1_0 a1_1 a1_2 a1_3 bt112.1 bt112.2.1 bt112.2.2.1))) else (some (0, 0, ([] : List Bool), bt112.2.2.2)))) else (some (0, 0, ([] : List Bool), t111)))) = some (r1, r2, r3, r4) := h
 clear h
 replace H := Option.bind_eq_some_iff.mp H
 obtain ⟨t111, A30, H⟩ := H
 replace H : (if t111 = 0 then ((raster_New.f a1_2 a1_3).bind fun bt112 => (if bt112.2.2.2 = 0 then ((raster_shared.f a1_0 a1_2 a0_0).bind fun bt119 => ((raster_shared.f a1_1 a1_3 a0_1).bind fun bt121 => (raster_Crop.l0 k bt119.1 bt119.2 bt121.2 bt121.1 a0_0 a0_1 l0_2 a1_0 a1_1 a1_2 a1_3 bt112.1 bt112.2.1 bt112.2.2.1))) else (some (0, 0, ([] : List Bool), bt112.2.2.2)))) else (some (0, 0, ([] : List Bool), t111))) = some (r1, r2, r3, r4) := H
 have A3 := Aside0.mk A30
 clear A30
 by_cases c4 : t111 = 0
 ·rw [if_pos c4] at H
  have c4b0 : (t111 == 0) = true := beq_iff_eq.mpr c4
  have c4b1 : (t111 != 0) = false := bne_eq_false_iff_eq.mpr c4
  clear c4
  replace H := Option.bind_eq_some_iff.mp H
  obtain ⟨⟨t112, t113, t114, t117⟩, A50, H⟩ := H
  replace H : (if t117 = 0 then ((raster_shared.f a1_0 a1_2 a0_0).bind fun bt119 => ((raster_shared.f a1_1 a1_3 a0_1).bind fun bt121 => (raster_Crop.l0 k bt119.1 bt119.2 bt121.2 bt121.1 a0_0 a0_1 l0_2 a1_0 a1_1 a1_2 a1_3 t112 t113 t114))) else (some (0, 0, ([] : List Bool), t117))) = some (r1, r2, r3, r4) := H
  have A5 := Aside0.mk A50
  clear A50
  by_cases c6 : t117 = 0
  ·rw [if_pos c6] at H
   have c6b0 : (t117 == 0) = true := beq_iff_eq.mpr c6
   have c6b1 : (t117 != 0) = false := bne_eq_false_iff_eq.mpr c6
   clear c6
   replace H := Option.bind_eq_some_iff.mp H
   obtain ⟨⟨t119, t120⟩, A70, H⟩ := H
   replace H : ((raster_shared.f a1_1 a1_3 a0_1).bind fun bt121 => (raster_Crop.l0 k t119 t120 bt121.2 bt121.1 a0_0 a0_1 l0_2 a1_0 a1_1 a1_2 a1_3 t112 t113 t114)) = some (r1, r2, r3, r4) := H
   have A7 := Aside0.mk A70
   clear A70
   replace H := Option.bind_eq_some_iff.mp H
   obtain ⟨⟨t121, t122⟩, A80, H⟩ := H
   replace H : (raster_Crop.l0 k t119 t120 t122 t121 a0_0 a0_1 l0_2 a1_0 a1_1 a1_2 a1_3 t112 t113 t114) = some (r1, r2, r3, r4) := H
   have A8 := Aside0.mk A80
   clear A80
   have H' := Aside0.mk H
   clear H
   go_enter Try.func14, Try.ntmps14
   go_wp2_with (first | ((with_reducible refine gate_dst (N := 2) rfl ?_); refine box_event ?hg (N := 2) ?hd (cs := #[.int .i64 a0_0, .int .i64 a0_1, .slice A0_2 l0_2.length c0_2]) (t := 24) ?hr ?_; (case hd => rfl); (case hg => rfl); (case hr => first | (go_simp; done) | (go_simp; rfl)); intro gb108 hg w9 hbox hb; have n0_ := Aside0.mk (below_step (hb0 HB) hb); have n1_ := Aside0.mk (hbox); have n2_ := Aside0.mk ((by rw [hg]; exact (below_size (hb0 HB)) : w.heap.size ≤ gb108)); have n3_ := Aside0.mk ((by rw [hg]; exact (below_size (hb0 HB)) : w.heap.size ≤ gb108)); clear HB; have HB := n0_; have BK108 := n1_; have GW108 := n2_; have GE108 := n3_; clear n0_ n1_ n2_ n3_; clear hb hbox hg) | ((with_reducible refine gate_dst (N := 3) rfl ?_); refine box_event ?hg (N := 3) ?hd (cs := #[.int .i64 a1_0, .int .i64 a1_1, .int .i64 a1_2, .int .i64 a1_3]) (t := 26) ?hr ?_; (case hd => rfl); (case hg => rfl); (case hr => first | (go_simp; done) | (go_simp; rfl)); intro gb109 hg w10 hbox hb; have n0_ := Aside0.mk (blk_below (bkx BK108) hb); have n1_ := Aside0.mk (below_step (hb1 HB GE108) hb); have n2_ := Aside0.mk (hbox); have n3_ := Aside0.mk ((by rw [hg]; exact (below_size (hb1 HB GE108)) : w.heap.size ≤ gb109)); have n4_ := Aside0.mk ((by rw [hg]; exact (below_size (hb1 HB GE108)) : w.heap.size ≤ gb109)); have n5_ := Aside0.mk (nel hg BK108 : gb108 ≠ gb109); have n6_ := Aside0.mk (neg hg BK108 : gb109 ≠ gb108); clear BK108; clear HB; have BK108 := n0_; have HB := n1_; have BK109 := n2_; have GW109 := n3_; have GE109 := n4_; have NB108_109 := n5_; have NB109_108 := n6_; clear n0_ n1_ n2_ n3_ n4_ n5_ n6_; clear hb hbox hg) | ((with_reducible refine gate_dst (N := 4) rfl ?_); refine box_event ?hg (N := 4) ?hd (cs := #[.int .i64 0, .int .i64 0, .slice none 0 0]) (t := 24) ?hr ?_; (case hd => rfl); (case hg => rfl); (case hr => first | (go_simp; done) | (go_simp; rfl)); intro gb110 hg w11 hbox hb; have n0_ := Aside0.mk (blk_below (bkx BK108) hb); have n1_ := Aside0.mk (blk_below (bkx BK109) hb); have n2_ := Aside0.mk (below_step (hb2 HB GE108 GE109) hb); have n3_ := Aside0.mk (hbox); have n4_ := Aside0.mk ((by rw [hg]; exact (below_size (hb2 HB GE108 GE109)) : w.heap.size ≤ gb110)); have n5_ := Aside0.mk ((by rw [hg]; exact (below_size (hb2 HB GE108 GE109)) : w.heap.size ≤ gb110)); have n6_ := Aside0.mk (nel hg BK108 : gb108 ≠ gb110); have n7_ := Aside0.mk (neg hg BK108 : gb110 ≠ gb108); have n8_ := Aside0.mk (nel hg BK109 : gb109 ≠ gb110); have n9_ := Aside0.mk (neg hg BK109 : gb110 ≠ gb109); clear BK108; clear BK109; clear HB; have BK108 := n0_; have BK109 := n1_; have HB := n2_; have BK110 := n3_; have GW110 := n4_; have GE110 := n5_; have NB108_110 := n6_; have NB110_108 := n7_; have NB109_110 := n8_; have NB110_109 := n9_; clear n0_ n1_ n2_ n3_ n4_ n5_ n6_ n7_ n8_ n9_; clear hb hbox hg; have hnb12 := NB108_109.out; have hnc12 := NB109_108.out; have hnb13 := NB108_110.out; have hnc13 := NB110_108.out; have hcz14_0 : w11.cell? ⟨gb108, 0, none⟩ = some (.int .i64 a0_0) := (blk_cell BK108.out 0).trans rfl; have hcz14_1 : w11.cell? ⟨gb108, 1, none⟩ = some (.int .i64 a0_1) := (blk_cell BK108.out 1).trans rfl; have hcz14_2 : w11.cell? ⟨gb108, 2, none⟩ = some (.slice A0_2 l0_2.length c0_2) := (blk_cell BK108.out 2).trans rfl; have hfz14_0 := blk_frozen BK108.out 0; have hfz14_1 := blk_frozen BK108.out 1; have hfz14_2 := blk_frozen BK108.out 2) | ((with_reducible refine gate_callee (f := 23) rfl ?_); refine goesL_ (some 15) rfl rfl Try.func23 (by kernel_rfl) rfl #[.agg #[.int .i64 a0_0, .int .i64 a0_1, .slice A0_2 l0_2.length c0_2]] rfl mapx ?_; (with_reducible refine (raster_Check.calls a0_0 a0_1 _ _ l0_2 t111 _ ?side1 ?side2 A3.out).mono ?_); (case side1 => repeat (first | exact (Kd.C_below HR0_2.out HB.out) | (with_reducible refine Kd.C_alloc ?_ _) | (with_reducible refine Kd.C_drewN ?_ _) | (with_reducible refine Kd.C_drew ?_))); (case side2 => exact HC0_2.out); rintro e w15 ⟨rfl, hb⟩; refine ⟨_, rfl, ?_⟩; have n0_ := Aside0.mk (blk_below (bkx BK108) hb); have n1_ := Aside0.mk (blk_below (bkx BK109) hb); have n2_ := Aside0.mk (blk_below (bkx BK110) hb); have n3_ := Aside0.mk (below_step (hb3 HB GE108 GE109 GE110) hb); clear BK108; clear BK109; clear BK110; clear HB; have BK108 := n0_; have BK109 := n1_; have BK110 := n2_; have HB := n3_; clear n0_ n1_ n2_ n3_; (try clear hb); (try clear hb2); (try clear hk); (try clear hi); have hnb16 := NB109_110.out; have hnc16 := NB110_109.out; have hcz17_0 : w15.cell? ⟨gb109, 0, none⟩ = some (.int .i64 a1_0) := (blk_cell BK109.out 0).trans rfl; have hcz17_1 : w15.cell? ⟨gb109, 1, none⟩ = some (.int .i64 a1_1) := (blk_cell BK109.out 1).trans rfl; have hcz17_2 : w15.cell? ⟨gb109, 2, none⟩ = some (.int .i64 a1_2) := (blk_cell BK109.out 2).trans rfl; have hcz17_3 : w15.cell? ⟨gb109, 3, none⟩ = some (.int .i64 a1_3) := (blk_cell BK109.out 3).trans rfl; have hfz17_0 := blk_frozen BK109.out 0; have hfz17_1 := blk_frozen BK109.out 1; have hfz17_2 := blk_frozen BK109.out 2; have hfz17_3 := blk_frozen BK109.out 3) | ((with_reducible refine gate_callee (f := 29) rfl ?_); refine goesL_ (some 25) rfl rfl Try.func29 (by kernel_rfl) rfl #[.int .i64 a1_2, .int .i64 a1_3] rfl mapx ?_; (with_reducible refine (raster_New.calls a1_2 a1_3 t112 t113 t114 t117 _ A5.out).mono ?_); rintro e w18 ⟨v115, rfl, ho0, hb⟩; refine ⟨_, rfl, ?_⟩; have n0_ := Aside0.mk (Kd.R_lower ho0 (below_size (hb3 HB GE108 GE109 GE110))); have n1_ := Aside0.mk (blk_below (bkx BK108) hb); have n2_ := Aside0.mk (blk_below (bkx BK109) hb); have n3_ := Aside0.mk (blk_below (bkx BK110) hb); have n4_ := Aside0.mk (below_step (hb3 HB GE108 GE109 GE110) hb); clear BK108; clear BK109; clear BK110; clear HB; have HO116 := n0_; have BK108 := n1_; have BK109 := n2_; have BK110 := n3_; have HB := n4_; clear n0_ n1_ n2_ n3_ n4_; (try clear hb); (try clear hb2); (try clear hk); (try clear hi); (try clear ho0)) | ((with_reducible refine gate_dst (N := 7) rfl ?_); refine box_event ?hg (N := 7) ?hd (cs := #[.int .i64 0, .int .i64 0, .slice none 0 0]) (t := 24) ?hr ?_; (case hd => rfl); (case hg => rfl); (case hr => first | (go_simp; done) | (go_simp; rfl)); intro gb118 hg w19 hbox hb; have n0_ := Aside0.mk (Kd.R_below (rkx HO116) hb); have n1_ := Aside0.mk (blk_below (bkx BK108) hb); have n2_ := Aside0.mk (blk_below (bkx BK109) hb); have n3_ := Aside0.mk (blk_below (bkx BK110) hb); have n4_ := Aside0.mk (below_step (hb3 HB GE108 GE109 GE110) hb); have n5_ := Aside0.mk (hbox); have n6_ := Aside0.mk ((by rw [hg]; exact (below_size (hb3 HB GE108 GE109 GE110)) : w.heap.size ≤ gb118)); have n7_ := Aside0.mk ((by rw [hg]; exact (below_size (hb3 HB GE108 GE109 GE110)) : w.heap.size ≤ gb118)); have n8_ := Aside0.mk (nel hg BK108 : gb108 ≠ gb118); have n9_ := Aside0.mk (neg hg BK108 : gb118 ≠ gb108); have n10_ := Aside0.mk (nel hg BK109 : gb109 ≠ gb118); have n11_ := Aside0.mk (neg hg BK109 : gb118 ≠ gb109); have n12_ := Aside0.mk (nel hg BK110 : gb110 ≠ gb118); have n13_ := Aside0.mk (neg hg BK110 : gb118 ≠ gb110); clear HO116; clear BK108; clear BK109; clear BK110; clear HB; have HO116 := n0_; have BK108 := n1_; have BK109 := n2_; have BK110 := n3_; have HB := n4_; have BK118 := n5_; have GW118 := n6_; have GE118 := n7_; have NB108_118 := n8_; have NB118_108 := n9_; have NB109_118 := n10_; have NB118_109 := n11_; have NB110_118 := n12_; have NB118_110 := n13_; clear n0_ n1_ n2_ n3_ n4_ n5_ n6_ n7_ n8_ n9_ n10_ n11_ n12_ n13_; clear hb hbox hg; have hnb20 := NB118_108.out; have hnc20 := NB108_118.out; have hnb21 := NB118_109.out; have hnc21 := NB109_118.out; have hnb22 := NB118_110.out; have hnc22 := NB110_118.out; have hcz23_0 : w19.cell? ⟨gb118, 0, none⟩ = some (.int .i64 0) := (blk_cell BK118.out 0).trans rfl; have hcz23_1 : w19.cell? ⟨gb118, 1, none⟩ = some (.int .i64 0) := (blk_cell BK118.out 1).trans rfl; have hcz23_2 : w19.cell? ⟨gb118, 2, none⟩ = some (.slice none 0 0) := (blk_cell BK118.out 2).trans rfl; have hfz23_0 := blk_frozen BK118.out 0; have hfz23_1 := blk_frozen BK118.out 1; have hfz23_2 := blk_frozen BK118.out 2; obtain ⟨Ao24, co24, eo24⟩ := Kd.R_slice HO116.out; subst eo24; have hcz25_0 : w19.cell? ⟨gb109, 0, none⟩ = some (.int .i64 a1_0) := (blk_cell BK109.out 0).trans rfl; have hcz25_1 : w19.cell? ⟨gb109, 1, none⟩ = some (.int .i64 a1_1) := (blk_cell BK109.out 1).trans rfl; have hcz25_2 : w19.cell? ⟨gb109, 2, none⟩ = some (.int .i64 a1_2) := (blk_cell BK109.out 2).trans rfl; have hcz25_3 : w19.cell? ⟨gb109, 3, none⟩ = some (.int .i64 a1_3) := (blk_cell BK109.out 3).trans rfl; have hfz25_0 := blk_frozen BK109.out 0; have hfz25_1 := blk_frozen BK109.out 1; have hfz25_2 := blk_frozen BK109.out 2; have hfz25_3 := blk_frozen BK109.out 3; have hcz26_0 : w19.cell? ⟨gb108, 0, none⟩ = some (.int .i64 a0_0) := (blk_cell BK108.out 0).trans rfl; have hcz26_1 : w19.cell? ⟨gb108, 1, none⟩ = some (.int .i64 a0_1) := (blk_cell BK108.out 1).trans rfl; have hcz26_2 : w19.cell? ⟨gb108, 2, none⟩ = some (.slice A0_2 l0_2.length c0_2) := (blk_cell BK108.out 2).trans rfl; have hfz26_0 := blk_frozen BK108.out 0; have hfz26_1 := blk_frozen BK108.out 1; have hfz26_2 := blk_frozen BK108.out 2) | ((with_reducible refine gate_callee (f := 45) rfl ?_); refine goesL_ (some 39) rfl rfl Try.func45 (by kernel_rfl) rfl #[.int .i64 a1_0, .int .i64 a1_2, .int .i64 a0_0] rfl mapx ?_; (with_reducible refine (raster_shared.calls a1_0 a1_2 a0_0 t119 t120 _ A7.out).mono ?_); rintro e w27 ⟨rfl, hb⟩; refine ⟨_, rfl, ?_⟩; have n0_ := Aside0.mk (Kd.R_below (by refine rkt ?_; exact (far3 HO116 BK118)) hb); have n1_ := Aside0.mk (blk_below (g := gb108) (o := .cells #[.int .i64 a0_0, .int .i64 a0_1, .slice A0_2 l0_2.length c0_2] 24 (0, 0)) (bky BK108 NB108_118) hb); have n2_ := Aside0.mk (blk_below (g := gb109) (o := .cells #[.int .i64 a1_0, .int .i64 a1_1, .int .i64 a1_2, .int .i64 a1_3] 26 (0, 0)) (bky BK109 NB109_118) hb); have n3_ := Aside0.mk (blk_below (g := gb110) (o := .cells #[.int .i64 0, .int .i64 0, .slice none 0 0] 24 (0, 0)) (bky BK110 NB110_118) hb); have n4_ := Aside0.mk (blk_below (g := gb118) (o := .cells #[.int .i64 t112, .int .i64 t113, .slice Ao24 t114.length co24] 24 (0, 0)) (by refine bkt ?_; refine blk_put (cs := #[.int .i64 t112, .int .i64 t113, .slice none 0 0]) ?_ 2 _ rfl; refine bkt ?_; refine blk_put (cs := #[.int .i64 t112, .int .i64 0, .slice none 0 0]) ?_ 1 _ rfl; refine bkt ?_; refine blk_put (cs := #[.int .i64 0, .int .i64 0, .slice none 0 0]) ?_ 0 _ rfl; refine bkt ?_; exact BK118.out) hb); have n5_ := Aside0.mk (below_step (hb4 HB GE108 GE109 GE110 GE118) hb); clear HO116; clear BK108; clear BK109; clear BK110; clear BK118; clear HB; have HO116 := n0_; have BK108 := n1_; have BK109 := n2_; have BK110 := n3_; have BK118 := n4_; have HB := n5_; clear n0_ n1_ n2_ n3_ n4_ n5_; (try clear hb); (try clear hb2); (try clear hk); (try clear hi); have hcz28_0 : w27.cell? ⟨gb109, 0, none⟩ = some (.int .i64 a1_0) := (blk_cell BK109.out 0).trans rfl; have hcz28_1 : w27.cell? ⟨gb109, 1, none⟩ = some (.int .i64 a1_1) := (blk_cell BK109.out 1).trans rfl; have hcz28_2 : w27.cell? ⟨gb109, 2, none⟩ = some (.int .i64 a1_2) := (blk_cell BK109.out 2).trans rfl; have hcz28_3 : w27.cell? ⟨gb109, 3, none⟩ = some (.int .i64 a1_3) := (blk_cell BK109.out 3).trans rfl; have hfz28_0 := blk_frozen BK109.out 0; have hfz28_1 := blk_frozen BK109.out 1; have hfz28_2 := blk_frozen BK109.out 2; have hfz28_3 := blk_frozen BK109.out 3; have hcz29_0 : w27.cell? ⟨gb108, 0, none⟩ = some (.int .i64 a0_0) := (blk_cell BK108.out 0).trans rfl; have hcz29_1 : w27.cell? ⟨gb108, 1, none⟩ = some (.int .i64 a0_1) := (blk_cell BK108.out 1).trans rfl; have hcz29_2 : w27.cell? ⟨gb108, 2, none⟩ = some (.slice A0_2 l0_2.length c0_2) := (blk_cell BK108.out 2).trans rfl; have hfz29_0 := blk_frozen BK108.out 0; have hfz29_1 := blk_frozen BK108.out 1; have hfz29_2 := blk_frozen BK108.out 2) | ((with_reducible refine gate_callee (f := 45) rfl ?_); refine goesL_ (some 49) rfl rfl Try.func45 (by kernel_rfl) rfl #[.int .i64 a1_1, .int .i64 a1_3, .int .i64 a0_1] rfl mapx ?_; (with_reducible refine (raster_shared.calls a1_1 a1_3 a0_1 t121 t122 _ A8.out).mono ?_); rintro e w30 ⟨rfl, hb⟩; refine ⟨_, rfl, ?_⟩; have n0_ := Aside0.mk (Kd.R_below (rkx HO116) hb); have n1_ := Aside0.mk (blk_below (bkx BK108) hb); have n2_ := Aside0.mk (blk_below (bkx BK109) hb); have n3_ := Aside0.mk (blk_below (bkx BK110) hb); have n4_ := Aside0.mk (blk_below (bkx BK118) hb); have n5_ := Aside0.mk (below_step (hb4 HB GE108 GE109 GE110 GE118) hb); clear HO116; clear BK108; clear BK109; clear BK110; clear BK118; clear HB; have HO116 := n0_; have BK108 := n1_; have BK109 := n2_; have BK110 := n3_; have BK118 := n4_; have HB := n5_; clear n0_ n1_ n2_ n3_ n4_ n5_; (try clear hb); (try clear hb2); (try clear hk); (try clear hi)))
   go_loopg [13] k (fun kq v13 w' => ∃ (x13_1 : Int) (x119002_1 : List Bool) (u119002 : Value), v13 = .int .i64 x13_1 ∧ Aside0 (raster_Crop.l0 kq t119 t120 t122 x13_1 a0_0 a0_1 l0_2 a1_0 a1_1 a1_2 a1_3 t112 t113 x119002_1 = some (r1, r2, r3, r4)) ∧ Aside0 (kq ≤ k) ∧ Aside0 (Kd.R Kd.bool 4 w' w.heap.size (fun _ => True) u119002 x119002_1) ∧ Aside0 (w'.heap[gb108]? = some (.cells #[.int .i64 a0_0, .int .i64 a0_1, (.slice A0_2 l0_2.length c0_2)] 24 (0, 0))) ∧ Aside0 (w'.heap[gb109]? = some (.cells #[.int .i64 a1_0, .int .i64 a1_1, .int .i64 a1_2, .int .i64 a1_3] 26 (0, 0))) ∧ Aside0 (w'.heap[gb110]? = some (.cells #[.int .i64 0, .int .i64 0, (.slice none 0 0)] 24 (0, 0))) ∧ Aside0 (w'.heap[gb118]? = some (.cells #[.int .i64 t112, .int .i64 t113, u119002] 24 (0, 0))) ∧ Aside0 (Below w.heap.size w w'))
   case atStart => exact ⟨(t121), (t114), (.slice Ao24 t114.length co24), (by first | rfl | (simp; done) | (simp [*]; done)), H', ⟨Nat.le_refl _⟩, ⟨rkx HO116⟩, ⟨bkx BK108⟩, ⟨bkx BK109⟩, ⟨bkx BK110⟩, ⟨bkx BK118⟩, ⟨hb4 HB GE108 GE109 GE110 GE118⟩⟩
   case round =>
    clear H'
    try clear c1
    try clear c2
    try clear p2
    try clear c4
    try clear c4b0
    try clear c4b1
    try clear c6
    try clear c6b0
    try clear c6b1
    try clear c12
    try clear c13
    try clear c14
    try clear c16
    try clear c20
    try clear c21
    try clear c22
    try clear c23
    try clear c29
    try clear hcz14_0
    try clear hcz14_1
    try clear hcz14_2
    try clear hcz17_0
    try clear hcz17_1
    try clear hcz17_2
    try clear hcz17_3
    try clear hcz23_0
    try clear hcz23_1
    try clear hcz23_2
    try clear hcz25_0
    try clear hcz25_1
    try clear hcz25_2
    try clear hcz25_3
    try clear hcz26_0
    try clear hcz26_1
    try clear hcz26_2
    try clear hcz28_0
    try clear hcz28_1
    try clear hcz28_2
    try clear hcz28_3
    try clear hcz29_0
    try clear hcz29_1
    try clear hcz29_2
    try clear hfz14_0
    try clear hfz14_1
    try clear hfz14_2
    try clear hfz17_0
    try clear hfz17_1
    try clear hfz17_2
    try clear hfz17_3
    try clear hfz23_0
    try clear hfz23_1
    try clear hfz23_2
    try clear hfz25_0
    try clear hfz25_1
    try clear hfz25_2
    try clear hfz25_3
    try clear hfz26_0
    try clear hfz26_1
    try clear hfz26_2
    try clear hfz28_0
    try clear hfz28_1
    try clear hfz28_2
    try clear hfz28_3
    try clear hfz29_0
    try clear hfz29_1
    try clear hfz29_2
    obtain ⟨x13_1, x119002_1, u119002, rfl, HA, HK1, HO_119002, BK108, BK109, BK110, BK118, HB⟩ := hrel
    cases gk with
    | zero => exact absurd HA.out (by simp [raster_Crop.l0])
    | succ k1 =>
     have H := HA.out
     clear HA
     simp only [raster_Crop.l0] at H
     by_cases c31 : x13_1 < t122
     ·rw [if_pos c31] at H
      have c31b0 : decide (x13_1 < t122) = true := decide_eq_true c31
      clear c31
      by_cases c32 : t119 < t120
      ·rw [if_pos c32] at H
       have c32b0 : decide (t119 < t120) = true := decide_eq_true c32
       clear c32
       obtain ⟨ji33, hji33⟩ : ∃ j_ : Int, (wrap64 ((wrap64 ((wrap64 ((wrap64 (x13_1 - a1_1)) * a1_2)) + t119)) - a1_0)) = j_ := ⟨_, rfl⟩
       replace H : (if 0 ≤ (ji33) then (if (ji33) ≤ (x119002_1.length : Int) then (if 0 ≤ (wrap64 ((wrap64 (x13_1 * a0_0)) + t119)) then (if (wrap64 ((wrap64 (x13_1 * a0_0)) + t119)) ≤ (wrap64 ((wrap64 (x13_1 * a0_0)) + t120)) then (if (wrap64 ((wrap64 (x13_1 * a0_0)) + t120)) ≤ (l0_2.length : Int) then (raster_Crop.l0 k1 t119 t120 t122 (wrap64 (x13_1 + 1)) a0_0 a0_1 l0_2 a1_0 a1_1 a1_2 a1_3 t112 t113 (copyIn x119002_1 (((ji33) : Int).toNat) (x119002_1.length - ((ji33) : Int).toNat) ((l0_2.take ((wrap64 ((wrap64 (x13_1 * a0_0)) + t120)) : Int).toNat).drop ((wrap64 ((wrap64 (x13_1 * a0_0)) + t119)) : Int).toNat))) else (none)) else (none)) else (none)) else (none)) else (none)) = some (r1, r2, r3, r4) := by first | (rw [hji33] at H; exact H) | (simp only [hji33] at H ⊢; exact H)
       have hji33w : (IntKind.i64.wrap ((wrap64 ((wrap64 ((wrap64 (x13_1 - a1_1)) * a1_2)) + t119)) - a1_0)) = ji33 := (i64_w _).trans hji33
       by_cases c34 : 0 ≤ (ji33)
       ·rw [if_pos c34] at H
        have c34b0 := eq_true c34
        have c34b1 : decide (0 ≤ (ji33)) = true := decide_eq_true c34
        clear c34
        by_cases c35 : (ji33) ≤ (x119002_1.length : Int)
        ·rw [if_pos c35] at H
         have c35b0 := eq_true c35
         have c35b1 : decide ((ji33) ≤ (x119002_1.length : Int)) = true := decide_eq_true c35
         clear c35
         obtain ⟨y123, hy123⟩ : ∃ y_ : List Bool, y_ = (x119002_1.drop ((ji33) : Int).toNat) := ⟨_, rfl⟩
         replace H : (if 0 ≤ (wrap64 ((wrap64 (x13_1 * a0_0)) + t119)) then (if (wrap64 ((wrap64 (x13_1 * a0_0)) + t119)) ≤ (wrap64 ((wrap64 (x13_1 * a0_0)) + t120)) then (if (wrap64 ((wrap64 (x13_1 * a0_0)) + t120)) ≤ (l0_2.length : Int) then (raster_Crop.l0 k1 t119 t120 t122 (wrap64 (x13_1 + 1)) a0_0 a0_1 l0_2 a1_0 a1_1 a1_2 a1_3 t112 t113 (copyIn x119002_1 (((ji33) : Int).toNat) (x119002_1.length - ((ji33) : Int).toNat) ((l0_2.take ((wrap64 ((wrap64 (x13_1 * a0_0)) + t120)) : Int).toNat).drop ((wrap64 ((wrap64 (x13_1 * a0_0)) + t119)) : Int).toNat))) else (none)) else (none)) else (none)) = some (r1, r2, r3, r4) := by first | (rw [hy123]; with_reducible exact H) | (have H2_ := (Option.bind_some _ _).symm.trans H; rw [hy123]; with_reducible exact H2_) | (have H2_ := (Option.bind_some _ _).symm.trans H; with_reducible exact H2_) | with_reducible exact H | (rw [hy123]; exact H) | exact H
         have Ny123 := Aside0.mk hy123
         clear hy123
         obtain ⟨ji36, hji36⟩ : ∃ j_ : Int, (wrap64 ((wrap64 (x13_1 * a0_0)) + t119)) = j_ := ⟨_, rfl⟩
         replace H : (if 0 ≤ (ji36) then (if (ji36) ≤ (wrap64 ((wrap64 (x13_1 * a0_0)) + t120)) then (if (wrap64 ((wrap64 (x13_1 * a0_0)) + t120)) ≤ (l0_2.length : Int) then (raster_Crop.l0 k1 t119 t120 t122 (wrap64 (x13_1 + 1)) a0_0 a0_1 l0_2 a1_0 a1_1 a1_2 a1_3 t112 t113 (copyIn x119002_1 (((ji33) : Int).toNat) (x119002_1.length - ((ji33) : Int).toNat) ((l0_2.take ((wrap64 ((wrap64 (x13_1 * a0_0)) + t120)) : Int).toNat).drop ((ji36) : Int).toNat))) else (none)) else (none)) else (none)) = some (r1, r2, r3, r4) := by first | (rw [hji36] at H; exact H) | (simp only [hji36] at H ⊢; exact H)
         have hji36w : (IntKind.i64.wrap ((wrap64 (x13_1 * a0_0)) + t119)) = ji36 := (i64_w _).trans hji36
         by_cases c37 : 0 ≤ (ji36)
         ·rw [if_pos c37] at H
          have c37b0 := eq_true c37
          have c37b1 : decide (0 ≤ (ji36)) = true := decide_eq_true c37
          clear c37
          by_cases c38 : (ji36) ≤ (wrap64 ((wrap64 (x13_1 * a0_0)) + t120))
          ·rw [if_pos c38] at H
           have c38b0 := eq_true c38
           have c38b1 : decide ((ji36) ≤ (wrap64 ((wrap64 (x13_1 * a0_0)) + t120))) = true := decide_eq_true c38
           by_cases c39 : (wrap64 ((wrap64 (x13_1 * a0_0)) + t120)) ≤ (l0_2.length : Int)
           ·rw [if_pos c39] at H
            have c39b0 := eq_true c39
            have c39b1 : decide ((wrap64 ((wrap64 (x13_1 * a0_0)) + t120)) ≤ (l0_2.length : Int)) = true := decide_eq_true c39
            obtain ⟨y128, hy128⟩ : ∃ y_ : List Bool, y_ = (copyIn x119002_1 (((ji33) : Int).toNat) (x119002_1.length - ((ji33) : Int).toNat) ((l0_2.take ((wrap64 ((wrap64 (x13_1 * a0_0)) + t120)) : Int).toNat).drop ((ji36) : Int).toNat)) := ⟨_, rfl⟩
            replace H : (raster_Crop.l0 k1 t119 t120 t122 (wrap64 (x13_1 + 1)) a0_0 a0_1 l0_2 a1_0 a1_1 a1_2 a1_3 t112 t113 y128) = some (r1, r2, r3, r4) := by first | (rw [hy128]; with_reducible exact H) | (have H2_ := (Option.bind_some _ _).symm.trans H; rw [hy128]; with_reducible exact H2_) | (have H2_ := (Option.bind_some _ _).symm.trans H; with_reducible exact H2_) | with_reducible exact H | (rw [hy128]; exact H) | exact H
            have Ny128 := Aside0.mk hy128
            clear hy128
            have H' := Aside0.mk H
            clear H
            try go_wp2
            have n0_ := Aside0.mk (Kd.R_drew HO_119002.out)
            have n1_ := Aside0.mk (blk_drew BK108.out)
            have n2_ := Aside0.mk (blk_drew BK109.out)
            have n3_ := Aside0.mk (blk_drew BK110.out)
            have n4_ := Aside0.mk (blk_drew BK118.out)
            have n5_ := Aside0.mk (below_drew1 HB.out)
            clear HO_119002
            clear BK108
            clear BK109
            clear BK110
            clear BK118
            clear HB
            have HO_119002 := n0_
            have BK108 := n1_
            have BK109 := n2_
            have BK110 := n3_
            have BK118 := n4_
            have HB := n5_
            clear n0_ n1_ n2_ n3_ n4_ n5_
            obtain ⟨Ao42, co42, eo42⟩ := Kd.R_slice HO_119002.out
            (first | subst eo42 | (injection eo42 with f1_ f2_ f3_; have f4_ := f1_.symm; have f5_ := f3_.symm; clear f1_ f2_ f3_; subst f4_; subst f5_))
            have q41 : ((ji33) : Int) ≤ ((x119002_1.length : Int) : Int) := of_decide_eq_true (by first | (with_reducible assumption) | assumption)
            obtain ⟨i041, hi041, _, hsz41, _⟩ := info_parts info4
            have hroom41 : x119002_1.length ≤ co42 := (Kd.R_reads' HO_119002.out).2.1
            have hC41 : Kd.C Kd.bool _ Ao42 x119002_1.length x119002_1 := (Kd.R_reads' HO_119002.out).2.2
            have q041 : (0 : Int) ≤ ((ji33) : Int) := of_decide_eq_true (by first | (with_reducible assumption) | assumption)
            have hcut41 := cut_from (P := Try.prog) 22 4 .i64 Try.underlying22 hi041 1 hsz41 Ao42 x119002_1.length co42 (ji33) q041 q41
            have hr41 := Kd.C_drop (m := ((ji33) : Int).toNat) (c := co42) hC41 (by omega) hroom41
            obtain ⟨A41, hA41⟩ : ∃ A1, A1 = (if co42 = ((ji33) : Int).toNat then Ao42 else (Ao42 : Option Addr).map (·.add (((ji33) : Int).toNat * 1))) := ⟨_, rfl⟩
            obtain ⟨c41, hc41⟩ : ∃ c1, c1 = co42 - ((ji33) : Int).toNat := ⟨_, rfl⟩
            have hy41 : y123.length = x119002_1.length - ((ji33) : Int).toNat := (by rw [Ny123.out, List.length_drop] <;> omega)
            rw [show (x119002_1).drop ((ji33) : Int).toNat = y123 from Ny123.out.symm] at hr41
            replace hr41 : Kd.C Kd.bool _ A41 y123.length y123 := (by rw [hA41]; exact hr41)
            rw [← hy41, ← hA41, ← hc41] at hcut41
            have HR126 := Aside0.mk hr41
            have HC126 := Aside0.mk (show y123.length ≤ c41 from by rw [hy41, hc41]; exact Nat.sub_le_sub_right hroom41 _)
            clear hr41 hC41 hroom41 hi041 hsz41 hc41
            have KY41 := Aside0.mk hy41
            have KA41 := Aside0.mk hA41
            clear hy41 hA41
            have KL41 := Aside0.mk (show ((ji33) : Int).toNat ≤ x119002_1.length from by omega)
            replace q41 := eq_true q41
            obtain ⟨i043, hi043, _, hsz43, _⟩ := info_parts info4
            obtain ⟨A43, hcut43, hA43, hC43⟩ := print_mid_of (P := Try.prog) Value.bool false 22 4 .i64 .i64 Try.underlying22 hi043 hsz43 A0_2 c0_2 l0_2 (ji36) (wrap64 ((wrap64 (x13_1 * a0_0)) + t120)) (of_decide_eq_true (by first | (with_reducible assumption) | assumption)) (by first | omega | exact of_decide_eq_true (by first | (with_reducible assumption) | assumption)) (of_decide_eq_true (by first | (with_reducible assumption) | assumption)) HC0_2.out
            have HR127 := Aside0.mk (Kd.C_of_reads (h1 := fun _ => rfl) (hA43 _ (Kd.reads_of_C HR0_2.out)))
            have HC127 := Aside0.mk hC43
            clear hA43 hC43 hi043 hsz43
            refine start_ (n := 31) (S := fun w' => w'.cell? ⟨gb118, 0, none⟩ = some (.int .i64 t112) ∧ w'.cell? ⟨gb118, 1, none⟩ = some (.int .i64 t113) ∧ w'.cell? ⟨gb118, 2, none⟩ = some (.slice Ao42 x119002_1.length co42) ∧ w'.cell? ⟨gb109, 0, none⟩ = some (.int .i64 a1_0) ∧ w'.cell? ⟨gb109, 1, none⟩ = some (.int .i64 a1_1) ∧ w'.cell? ⟨gb109, 2, none⟩ = some (.int .i64 a1_2) ∧ w'.cell? ⟨gb109, 3, none⟩ = some (.int .i64 a1_3) ∧ w'.cell? ⟨gb108, 0, none⟩ = some (.int .i64 a0_0) ∧ w'.cell? ⟨gb108, 1, none⟩ = some (.int .i64 a0_1) ∧ w'.cell? ⟨gb108, 2, none⟩ = some (.slice A0_2 l0_2.length c0_2)) (ds := []) (bA 31 0) (by kernel_rfl) rfl rfl ⟨(blk_cell BK118.out 0).trans rfl, (blk_cell BK118.out 1).trans rfl, (blk_cell BK118.out 2).trans rfl, (blk_cell BK109.out 0).trans rfl, (blk_cell BK109.out 1).trans rfl, (blk_cell BK109.out 2).trans rfl, (blk_cell BK109.out 3).trans rfl, (blk_cell BK108.out 0).trans rfl, (blk_cell BK108.out 1).trans rfl, (blk_cell BK108.out 2).trans rfl⟩ (fun hHeld => ?_); refine with_tabW raster_Crop.tab12 raster_Crop.bits12 (fun HT_ HW_ => ?_)
            generalize wr.drew = w40 at HO_119002 BK108 BK109 BK110 BK118 HB HR126 HR127 hHeld ⊢
            refine pt HT_ 0 63 ?_
            refine pt HT_ 2 65 ?_
            refine pt HT_ 3 66 ?_
            refine pt HT_ 6 69 ?_
            refine pt HT_ 9 72 ?_
            refine pt HT_ 11 74 ?_
            refine pt HT_ 15 78 ?_
            refine pt HT_ 17 80 ?_
            refine pt HT_ 18 81 ?_
            refine pt HT_ 21 84 ?_
            refine pt HT_ 23 86 ?_
            refine pt HT_ 24 87 ?_
            refine pt HT_ 27 90 ?_
            refine tk HT_ HW_ hHeld 1 64 ?_
            refine tk HT_ HW_ hHeld 4 67 ?_
            refine pt HT_ 5 68 ?_
            refine tk HT_ HW_ hHeld 7 70 ?_
            refine pt HT_ 8 71 ?_
            refine pt HT_ 10 73 ?_
            refine tk HT_ HW_ hHeld 12 75 ?_
            refine pt HT_ 13 76 ?_
            refine pt HT_ 14 77 ?_
            refine tk HT_ HW_ hHeld 16 79 ?_
            refine tk HT_ HW_ hHeld 19 82 ?_
            refine pt HT_ 20 83 ?_
            refine pt HT_ 22 85 ?_
            refine tk HT_ HW_ hHeld 25 88 ?_
            refine pt HT_ 26 89 ?_
            refine pt HT_ 28 91 ?_
            refine pt HT_ 29 92 ?_
            refine one_ (i := 30) (N := some 93) (bA 31 2147483647) rfl rfl (one_of HT_.out (by kernel_rfl)) (by decide) (fun K hK => ?_)
            refine R_copyin_step (enc := Value.bool) (h1 := fun _ => rfl) (xs := x119002_1) (A0 := Ao42) (n0 := x119002_1.length) (c0 := co42) (w0 := w) (ok := (fun _ => True)) w.heap.size (by rfl) (.tmp 77) (.tmp 92) 22 22 4 rfl Try.underlying22 (by kernel_rfl) (((ji33) : Int).toNat) ((l0_2.take ((wrap64 ((wrap64 (x13_1 * a0_0)) + t120)) : Int).toNat).drop ((ji36) : Int).toNat) rfl rfl ?hA ?hm ?hO ?hR (hb4 HB GE108 GE109 GE110 GE118) (below_size (hb4 HB GE108 GE109 GE110 GE118)) ?_
            (case hA => exact KA41.out)
            (case hm => have ha_ := KY41.out; have hb_ := KL41.out; have hc_ := (Kd.R_reads' HO_119002.out).1; omega)
            (case hO => exact (rkx HO_119002))
            (case hR => first | (rw [← show ((l0_2.take ((wrap64 ((wrap64 (x13_1 * a0_0)) + t120)) : Int).toNat).drop ((ji36) : Int).toNat).length = ((wrap64 ((wrap64 (x13_1 * a0_0)) + t120)).toNat - (ji36).toNat) from (by rw [List.length_drop, List.length_take]; have h_ : ((wrap64 ((wrap64 (x13_1 * a0_0)) + t120)) : Int) ≤ (l0_2.length : Int) := of_decide_eq_true (by first | (with_reducible assumption) | assumption); omega)]; repeat (first | exact (Kd.C_below HR127.out HB.out) | (with_reducible refine Kd.C_alloc ?_ _) | (with_reducible refine Kd.C_drewN ?_ _) | (with_reducible refine Kd.C_drew ?_))) | (repeat (first | exact (Kd.C_below HR127.out HB.out) | (with_reducible refine Kd.C_alloc ?_ _) | (with_reducible refine Kd.C_drewN ?_ _) | (with_reducible refine Kd.C_drew ?_))))
            intro w44 q_ ho hb hg
            have hm_ : y123.length = x119002_1.length - ((ji33) : Int).toNat := (by have ha_ := KY41.out; have hb_ := KL41.out; have hc_ := (Kd.R_reads' HO_119002.out).1; omega)
            rw [hm_, ← Ny128.out] at ho
            clear hm_
            have n0_ := Aside0.mk (ho)
            have n1_ := Aside0.mk (blk_grown (g := gb108) (o := .cells #[.int .i64 a0_0, .int .i64 a0_1, .slice A0_2 l0_2.length c0_2] 24 (0, 0)) (bkx BK108) hg (Kd.R_ne HO_119002.out BK108.out (by decide)))
            have n2_ := Aside0.mk (blk_grown (g := gb109) (o := .cells #[.int .i64 a1_0, .int .i64 a1_1, .int .i64 a1_2, .int .i64 a1_3] 26 (0, 0)) (bkx BK109) hg (Kd.R_ne HO_119002.out BK109.out (by decide)))
            have n3_ := Aside0.mk (blk_grown (g := gb110) (o := .cells #[.int .i64 0, .int .i64 0, .slice none 0 0] 24 (0, 0)) (bkx BK110) hg (Kd.R_ne HO_119002.out BK110.out (by decide)))
            have n4_ := Aside0.mk (blk_grown (g := gb118) (o := .cells #[.int .i64 t112, .int .i64 t113, .slice Ao42 x119002_1.length co42] 24 (0, 0)) (bkx BK118) hg (Kd.R_ne HO_119002.out BK118.out (by decide)))
            have n5_ := Aside0.mk (hb)
            clear HO_119002
            clear BK108
            clear BK109
            clear BK110
            clear BK118
            clear HB
            have HO_119002 := n0_
            have BK108 := n1_
            have BK109 := n2_
            have BK110 := n3_
            have BK118 := n4_
            have HB := n5_
            clear n0_ n1_ n2_ n3_ n4_ n5_
            clear ho hb hg
            refine hK.out _ _ ⟨(blk_cell BK118.out 0).trans rfl, (blk_cell BK118.out 1).trans rfl, (blk_cell BK118.out 2).trans rfl, (blk_cell BK109.out 0).trans rfl, (blk_cell BK109.out 1).trans rfl, (blk_cell BK109.out 2).trans rfl, (blk_cell BK109.out 3).trans rfl, (blk_cell BK108.out 0).trans rfl, (blk_cell BK108.out 1).trans rfl, (blk_cell BK108.out 2).trans rfl⟩ (fun hHeld => ?_)
            clear hK K
            refine norm_ (a' := ?_) ?_ ?_
            rotate_left
            ·show Act.put _ (some 93) _ = _
             simp only [Act.put, List.setIfInBounds_toArray, List.set_cons_zero, List.set_cons_succ, i64_w, i32_w]
             rfl
            refine done_ (done_of HT_.out (by kernel_rfl)) ?_
            try go_wp2
            go_roundg k1
            case measure => have := HK1.out; omega
            case rel => exact ⟨(wrap64 (x13_1 + 1)), (y128), (.slice Ao42 x119002_1.length co42), (by first | rfl | (simp; done) | (simp [*]; done)), H', ⟨by have := HK1.out; omega⟩, ⟨rkx HO_119002⟩, ⟨bkx BK108⟩, ⟨bkx BK109⟩, ⟨bkx BK110⟩, ⟨bkx BK118⟩, ⟨hb4 HB GE108 GE109 GE110 GE118⟩⟩
           ·rw [if_neg c39] at H
            exact absurd H (by simp)
          ·rw [if_neg c38] at H
           exact absurd H (by simp)
         ·rw [if_neg c37] at H
          exact absurd H (by simp)
        ·rw [if_neg c35] at H
         exact absurd H (by simp)
       ·rw [if_neg c34] at H
        exact absurd H (by simp)
      ·rw [if_neg c32] at H
       have c32b0 : decide (t119 < t120) = false := decide_eq_false c32
       clear c32
       simp only [Option.some.injEq, Prod.mk.injEq] at H
       obtain ⟨rfl, rfl, rfl, rfl⟩ := H
       have hnb45 := NB118_108.out
       have hnc45 := NB108_118.out
       have hnb46 := NB118_109.out
       have hnc46 := NB109_118.out
       have hnb47 := NB118_110.out
       have hnc47 := NB110_118.out
       have hcz48_0 : wr.cell? ⟨gb118, 0, none⟩ = some (.int .i64 t112) := (blk_cell BK118.out 0).trans rfl
       have hcz48_1 : wr.cell? ⟨gb118, 1, none⟩ = some (.int .i64 t113) := (blk_cell BK118.out 1).trans rfl
       have hcz48_2 : wr.cell? ⟨gb118, 2, none⟩ = some (u119002) := (blk_cell BK118.out 2).trans rfl
       have hfz48_0 := blk_frozen BK118.out 0
       have hfz48_1 := blk_frozen BK118.out 1
       have hfz48_2 := blk_frozen BK118.out 2
       have hnb49 := NB110_108.out
       have hnc49 := NB108_110.out
       have hnb50 := NB110_109.out
       have hnc50 := NB109_110.out
       have hcz51_0 : wr.cell? ⟨gb110, 0, none⟩ = some (.int .i64 0) := (blk_cell BK110.out 0).trans rfl
       have hcz51_1 : wr.cell? ⟨gb110, 1, none⟩ = some (.int .i64 0) := (blk_cell BK110.out 1).trans rfl
       have hcz51_2 : wr.cell? ⟨gb110, 2, none⟩ = some (.slice none 0 0) := (blk_cell BK110.out 2).trans rfl
       have hfz51_0 := blk_frozen BK110.out 0
       have hfz51_1 := blk_frozen BK110.out 1
       have hfz51_2 := blk_frozen BK110.out 2
       obtain ⟨Ao52, co52, eo52⟩ := Kd.R_slice HO_119002.out
       subst eo52
       go_wp2
       refine bodyPost_ret (results_ct rfl _ _ gb110 24 #[.int .i64 t112, .int .i64 t113, .slice Ao52 x119002_1.length co52] (0, 0) _ rfl (by refine bkt ?_; refine blk_put (cs := #[.int .i64 t112, .int .i64 t113, .slice none 0 0]) ?_ 2 _ rfl; refine bkt ?_; refine blk_put (cs := #[.int .i64 t112, .int .i64 0, .slice none 0 0]) ?_ 1 _ rfl; refine bkt ?_; refine blk_put (cs := #[.int .i64 0, .int .i64 0, .slice none 0 0]) ?_ 0 _ rfl; refine bkt ?_; exact BK110.out) Try.underlying24 rfl (by kernel_rfl)) rfl ?_
       exact ⟨_, by first | rfl | (simp [errW_none, errW_some] <;> rfl) | (simp [*, errW_none, errW_some] <;> rfl), by refine rkt ?_; exact Kd.R_mono (Kd.R_far (p := ⟨gb110, 2, none⟩) (Kd.R_far (p := ⟨gb110, 1, none⟩) (Kd.R_far (p := ⟨gb110, 0, none⟩) (Kd.R_types HO_119002.out BK110.out (by decide)) (fun _ hk => hk.2) (.int .i64 t112)) (fun _ hk => hk.2) (.int .i64 t113)) (fun _ hk => hk.2) (.slice Ao52 x119002_1.length co52)) (fun _ hk => trivial), by repeat (first | (with_reducible first | exact HB.out | apply below_alloc | apply pw_below_drewN | apply below_drew1 | refine below_set ?_ GE108.out | refine below_set ?_ GE109.out | refine below_set ?_ GE110.out | refine below_set ?_ GE118.out) | exact HB.out)⟩
     ·rw [if_neg c31] at H
      have c31b0 : decide (x13_1 < t122) = false := decide_eq_false c31
      clear c31
      simp only [Option.some.injEq, Prod.mk.injEq] at H
      obtain ⟨rfl, rfl, rfl, rfl⟩ := H
      have hnb53 := NB118_108.out
      have hnc53 := NB108_118.out
      have hnb54 := NB118_109.out
      have hnc54 := NB109_118.out
      have hnb55 := NB118_110.out
      have hnc55 := NB110_118.out
      have hcz56_0 : wr.cell? ⟨gb118, 0, none⟩ = some (.int .i64 t112) := (blk_cell BK118.out 0).trans rfl
      have hcz56_1 : wr.cell? ⟨gb118, 1, none⟩ = some (.int .i64 t113) := (blk_cell BK118.out 1).trans rfl
      have hcz56_2 : wr.cell? ⟨gb118, 2, none⟩ = some (u119002) := (blk_cell BK118.out 2).trans rfl
      have hfz56_0 := blk_frozen BK118.out 0
      have hfz56_1 := blk_frozen BK118.out 1
      have hfz56_2 := blk_frozen BK118.out 2
      have hnb57 := NB110_108.out
      have hnc57 := NB108_110.out
      have hnb58 := NB110_109.out
      have hnc58 := NB109_110.out
      have hcz59_0 : wr.cell? ⟨gb110, 0, none⟩ = some (.int .i64 0) := (blk_cell BK110.out 0).trans rfl
      have hcz59_1 : wr.cell? ⟨gb110, 1, none⟩ = some (.int .i64 0) := (blk_cell BK110.out 1).trans rfl
      have hcz59_2 : wr.cell? ⟨gb110, 2, none⟩ = some (.slice none 0 0) := (blk_cell BK110.out 2).trans rfl
      have hfz59_0 := blk_frozen BK110.out 0
      have hfz59_1 := blk_frozen BK110.out 1
      have hfz59_2 := blk_frozen BK110.out 2
      obtain ⟨Ao60, co60, eo60⟩ := Kd.R_slice HO_119002.out
      subst eo60
      go_wp2
      refine bodyPost_ret (results_ct rfl _ _ gb110 24 #[.int .i64 t112, .int .i64 t113, .slice Ao60 x119002_1.length co60] (0, 0) _ rfl (by refine bkt ?_; refine blk_put (cs := #[.int .i64 t112, .int .i64 t113, .slice none 0 0]) ?_ 2 _ rfl; refine bkt ?_; refine blk_put (cs := #[.int .i64 t112, .int .i64 0, .slice none 0 0]) ?_ 1 _ rfl; refine bkt ?_; refine blk_put (cs := #[.int .i64 0, .int .i64 0, .slice none 0 0]) ?_ 0 _ rfl; refine bkt ?_; exact BK110.out) Try.underlying24 rfl (by kernel_rfl)) rfl ?_
      exact ⟨_, by first | rfl | (simp [errW_none, errW_some] <;> rfl) | (simp [*, errW_none, errW_some] <;> rfl), by refine rkt ?_; exact Kd.R_mono (Kd.R_far (p := ⟨gb110, 2, none⟩) (Kd.R_far (p := ⟨gb110, 1, none⟩) (Kd.R_far (p := ⟨gb110, 0, none⟩) (Kd.R_types HO_119002.out BK110.out (by decide)) (fun _ hk => hk.2) (.int .i64 t112)) (fun _ hk => hk.2) (.int .i64 t113)) (fun _ hk => hk.2) (.slice Ao60 x119002_1.length co60)) (fun _ hk => trivial), by repeat (first | (with_reducible first | exact HB.out | apply below_alloc | apply pw_below_drewN | apply below_drew1 | refine below_set ?_ GE108.out | refine below_set ?_ GE109.out | refine below_set ?_ GE110.out | refine below_set ?_ GE118.out) | exact HB.out)⟩
  ·rw [if_neg c6] at H
   have c6b0 : (t117 == 0) = false := beq_eq_false_iff_ne.mpr c6
   have c6b1 : (t117 != 0) = true := bne_iff_ne.mpr c6
   simp only [Option.some.injEq, Prod.mk.injEq] at H
   obtain ⟨rfl, rfl, rfl, rfl⟩ := H
   go_enter Try.func14, Try.ntmps14
   go_wp2_with (first | ((with_reducible refine gate_dst (N := 2) rfl ?_); refine box_event ?hg (N := 2) ?hd (cs := #[.int .i64 a0_0, .int .i64 a0_1, .slice A0_2 l0_2.length c0_2]) (t := 24) ?hr ?_; (case hd => rfl); (case hg => rfl); (case hr => first | (go_simp; done) | (go_simp; rfl)); intro gb108 hg w61 hbox hb; have n0_ := Aside0.mk (below_step (hb0 HB) hb); have n1_ := Aside0.mk (hbox); have n2_ := Aside0.mk ((by rw [hg]; exact (below_size (hb0 HB)) : w.heap.size ≤ gb108)); have n3_ := Aside0.mk ((by rw [hg]; exact (below_size (hb0 HB)) : w.heap.size ≤ gb108)); clear HB; have HB := n0_; have BK108 := n1_; have GW108 := n2_; have GE108 := n3_; clear n0_ n1_ n2_ n3_; clear hb hbox hg) | ((with_reducible refine gate_dst (N := 3) rfl ?_); refine box_event ?hg (N := 3) ?hd (cs := #[.int .i64 a1_0, .int .i64 a1_1, .int .i64 a1_2, .int .i64 a1_3]) (t := 26) ?hr ?_; (case hd => rfl); (case hg => rfl); (case hr => first | (go_simp; done) | (go_simp; rfl)); intro gb109 hg w62 hbox hb; have n0_ := Aside0.mk (blk_below (bkx BK108) hb); have n1_ := Aside0.mk (below_step (hb1 HB GE108) hb); have n2_ := Aside0.mk (hbox); have n3_ := Aside0.mk ((by rw [hg]; exact (below_size (hb1 HB GE108)) : w.heap.size ≤ gb109)); have n4_ := Aside0.mk ((by rw [hg]; exact (below_size (hb1 HB GE108)) : w.heap.size ≤ gb109)); have n5_ := Aside0.mk (nel hg BK108 : gb108 ≠ gb109); have n6_ := Aside0.mk (neg hg BK108 : gb109 ≠ gb108); clear BK108; clear HB; have BK108 := n0_; have HB := n1_; have BK109 := n2_; have GW109 := n3_; have GE109 := n4_; have NB108_109 := n5_; have NB109_108 := n6_; clear n0_ n1_ n2_ n3_ n4_ n5_ n6_; clear hb hbox hg) | ((with_reducible refine gate_dst (N := 4) rfl ?_); refine box_event ?hg (N := 4) ?hd (cs := #[.int .i64 0, .int .i64 0, .slice none 0 0]) (t := 24) ?hr ?_; (case hd => rfl); (case hg => rfl); (case hr => first | (go_simp; done) | (go_simp; rfl)); intro gb110 hg w63 hbox hb; have n0_ := Aside0.mk (blk_below (bkx BK108) hb); have n1_ := Aside0.mk (blk_below (bkx BK109) hb); have n2_ := Aside0.mk (below_step (hb2 HB GE108 GE109) hb); have n3_ := Aside0.mk (hbox); have n4_ := Aside0.mk ((by rw [hg]; exact (below_size (hb2 HB GE108 GE109)) : w.heap.size ≤ gb110)); have n5_ := Aside0.mk ((by rw [hg]; exact (below_size (hb2 HB GE108 GE109)) : w.heap.size ≤ gb110)); have n6_ := Aside0.mk (nel hg BK108 : gb108 ≠ gb110); have n7_ := Aside0.mk (neg hg BK108 : gb110 ≠ gb108); have n8_ := Aside0.mk (nel hg BK109 : gb109 ≠ gb110); have n9_ := Aside0.mk (neg hg BK109 : gb110 ≠ gb109); clear BK108; clear BK109; clear HB; have BK108 := n0_; have BK109 := n1_; have HB := n2_; have BK110 := n3_; have GW110 := n4_; have GE110 := n5_; have NB108_110 := n6_; have NB110_108 := n7_; have NB109_110 := n8_; have NB110_109 := n9_; clear n0_ n1_ n2_ n3_ n4_ n5_ n6_ n7_ n8_ n9_; clear hb hbox hg; have hnb64 := NB108_109.out; have hnc64 := NB109_108.out; have hnb65 := NB108_110.out; have hnc65 := NB110_108.out; have hcz66_0 : w63.cell? ⟨gb108, 0, none⟩ = some (.int .i64 a0_0) := (blk_cell BK108.out 0).trans rfl; have hcz66_1 : w63.cell? ⟨gb108, 1, none⟩ = some (.int .i64 a0_1) := (blk_cell BK108.out 1).trans rfl; have hcz66_2 : w63.cell? ⟨gb108, 2, none⟩ = some (.slice A0_2 l0_2.length c0_2) := (blk_cell BK108.out 2).trans rfl; have hfz66_0 := blk_frozen BK108.out 0; have hfz66_1 := blk_frozen BK108.out 1; have hfz66_2 := blk_frozen BK108.out 2) | ((with_reducible refine gate_callee (f := 23) rfl ?_); refine goesL_ (some 15) rfl rfl Try.func23 (by kernel_rfl) rfl #[.agg #[.int .i64 a0_0, .int .i64 a0_1, .slice A0_2 l0_2.length c0_2]] rfl mapx ?_; (with_reducible refine (raster_Check.calls a0_0 a0_1 _ _ l0_2 t111 _ ?side1 ?side2 A3.out).mono ?_); (case side1 => repeat (first | exact (Kd.C_below HR0_2.out HB.out) | (with_reducible refine Kd.C_alloc ?_ _) | (with_reducible refine Kd.C_drewN ?_ _) | (with_reducible refine Kd.C_drew ?_))); (case side2 => exact HC0_2.out); rintro e w67 ⟨rfl, hb⟩; refine ⟨_, rfl, ?_⟩; have n0_ := Aside0.mk (blk_below (bkx BK108) hb); have n1_ := Aside0.mk (blk_below (bkx BK109) hb); have n2_ := Aside0.mk (blk_below (bkx BK110) hb); have n3_ := Aside0.mk (below_step (hb3 HB GE108 GE109 GE110) hb); clear BK108; clear BK109; clear BK110; clear HB; have BK108 := n0_; have BK109 := n1_; have BK110 := n2_; have HB := n3_; clear n0_ n1_ n2_ n3_; (try clear hb); (try clear hb2); (try clear hk); (try clear hi); have hnb68 := NB109_110.out; have hnc68 := NB110_109.out; have hcz69_0 : w67.cell? ⟨gb109, 0, none⟩ = some (.int .i64 a1_0) := (blk_cell BK109.out 0).trans rfl; have hcz69_1 : w67.cell? ⟨gb109, 1, none⟩ = some (.int .i64 a1_1) := (blk_cell BK109.out 1).trans rfl; have hcz69_2 : w67.cell? ⟨gb109, 2, none⟩ = some (.int .i64 a1_2) := (blk_cell BK109.out 2).trans rfl; have hcz69_3 : w67.cell? ⟨gb109, 3, none⟩ = some (.int .i64 a1_3) := (blk_cell BK109.out 3).trans rfl; have hfz69_0 := blk_frozen BK109.out 0; have hfz69_1 := blk_frozen BK109.out 1; have hfz69_2 := blk_frozen BK109.out 2; have hfz69_3 := blk_frozen BK109.out 3) | ((with_reducible refine gate_callee (f := 29) rfl ?_); refine goesL_ (some 25) rfl rfl Try.func29 (by kernel_rfl) rfl #[.int .i64 a1_2, .int .i64 a1_3] rfl mapx ?_; (with_reducible refine (raster_New.calls a1_2 a1_3 t112 t113 t114 t117 _ A5.out).mono ?_); rintro e w70 ⟨v115, rfl, ho0, hb⟩; refine ⟨_, rfl, ?_⟩; have n0_ := Aside0.mk (Kd.R_lower ho0 (below_size (hb3 HB GE108 GE109 GE110))); have n1_ := Aside0.mk (blk_below (bkx BK108) hb); have n2_ := Aside0.mk (blk_below (bkx BK109) hb); have n3_ := Aside0.mk (blk_below (bkx BK110) hb); have n4_ := Aside0.mk (below_step (hb3 HB GE108 GE109 GE110) hb); clear BK108; clear BK109; clear BK110; clear HB; have HO116 := n0_; have BK108 := n1_; have BK109 := n2_; have BK110 := n3_; have HB := n4_; clear n0_ n1_ n2_ n3_ n4_; (try clear hb); (try clear hb2); (try clear hk); (try clear hi); (try clear ho0)) | ((with_reducible refine gate_dst (N := 7) rfl ?_); refine box_event ?hg (N := 7) ?hd (cs := #[.int .i64 0, .int .i64 0, .slice none 0 0]) (t := 24) ?hr ?_; (case hd => rfl); (case hg => rfl); (case hr => first | (go_simp; done) | (go_simp; rfl)); intro gb118 hg w71 hbox hb; have n0_ := Aside0.mk (Kd.R_below (rkx HO116) hb); have n1_ := Aside0.mk (blk_below (bkx BK108) hb); have n2_ := Aside0.mk (blk_below (bkx BK109) hb); have n3_ := Aside0.mk (blk_below (bkx BK110) hb); have n4_ := Aside0.mk (below_step (hb3 HB GE108 GE109 GE110) hb); have n5_ := Aside0.mk (hbox); have n6_ := Aside0.mk ((by rw [hg]; exact (below_size (hb3 HB GE108 GE109 GE110)) : w.heap.size ≤ gb118)); have n7_ := Aside0.mk ((by rw [hg]; exact (below_size (hb3 HB GE108 GE109 GE110)) : w.heap.size ≤ gb118)); have n8_ := Aside0.mk (nel hg BK108 : gb108 ≠ gb118); have n9_ := Aside0.mk (neg hg BK108 : gb118 ≠ gb108); have n10_ := Aside0.mk (nel hg BK109 : gb109 ≠ gb118); have n11_ := Aside0.mk (neg hg BK109 : gb118 ≠ gb109); have n12_ := Aside0.mk (nel hg BK110 : gb110 ≠ gb118); have n13_ := Aside0.mk (neg hg BK110 : gb118 ≠ gb110); clear HO116; clear BK108; clear BK109; clear BK110; clear HB; have HO116 := n0_; have BK108 := n1_; have BK109 := n2_; have BK110 := n3_; have HB := n4_; have BK118 := n5_; have GW118 := n6_; have GE118 := n7_; have NB108_118 := n8_; have NB118_108 := n9_; have NB109_118 := n10_; have NB118_109 := n11_; have NB110_118 := n12_; have NB118_110 := n13_; clear n0_ n1_ n2_ n3_ n4_ n5_ n6_ n7_ n8_ n9_ n10_ n11_ n12_ n13_; clear hb hbox hg; have hnb72 := NB118_108.out; have hnc72 := NB108_118.out; have hnb73 := NB118_109.out; have hnc73 := NB109_118.out; have hnb74 := NB118_110.out; have hnc74 := NB110_118.out; have hcz75_0 : w71.cell? ⟨gb118, 0, none⟩ = some (.int .i64 0) := (blk_cell BK118.out 0).trans rfl; have hcz75_1 : w71.cell? ⟨gb118, 1, none⟩ = some (.int .i64 0) := (blk_cell BK118.out 1).trans rfl; have hcz75_2 : w71.cell? ⟨gb118, 2, none⟩ = some (.slice none 0 0) := (blk_cell BK118.out 2).trans rfl; have hfz75_0 := blk_frozen BK118.out 0; have hfz75_1 := blk_frozen BK118.out 1; have hfz75_2 := blk_frozen BK118.out 2; obtain ⟨Ao76, co76, eo76⟩ := Kd.R_slice HO116.out; subst eo76; have hcz77_0 : w71.cell? ⟨gb110, 0, none⟩ = some (.int .i64 0) := (blk_cell BK110.out 0).trans rfl; have hcz77_1 : w71.cell? ⟨gb110, 1, none⟩ = some (.int .i64 0) := (blk_cell BK110.out 1).trans rfl; have hcz77_2 : w71.cell? ⟨gb110, 2, none⟩ = some (.slice none 0 0) := (blk_cell BK110.out 2).trans rfl; have hfz77_0 := blk_frozen BK110.out 0; have hfz77_1 := blk_frozen BK110.out 1; have hfz77_2 := blk_frozen BK110.out 2))
   refine bodyPost_ret (results_ct rfl _ _ gb110 24 #[.int .i64 0, .int .i64 0, .slice none 0 0] (0, 0) _ rfl (by refine bkt ?_; refine blk_put (cs := #[.int .i64 0, .int .i64 0, .slice none 0 0]) ?_ 2 _ rfl; refine bkt ?_; refine blk_put (cs := #[.int .i64 0, .int .i64 0, .slice none 0 0]) ?_ 1 _ rfl; refine bkt ?_; refine blk_put (cs := #[.int .i64 0, .int .i64 0, .slice none 0 0]) ?_ 0 _ rfl; refine bkt ?_; refine blk_far ?_ NB110_118.out _; refine bkt ?_; refine blk_far ?_ NB110_118.out _; refine bkt ?_; refine blk_far ?_ NB110_118.out _; refine bkt ?_; exact BK110.out) Try.underlying24 rfl (by kernel_rfl)) rfl ?_
   exact ⟨_, by first | rfl | (simp [errW_none, errW_some] <;> rfl) | (simp [*, errW_none, errW_some] <;> rfl), by first | exact Kd.R_nil _ _ _ _ _ | exact Kd.N_nil _ _ _ _ _ | exact Kd.V_nil _ _ _ _ _ | exact Kd.Q_nil _ _ _ _ _ | exact Kd.S_nil _ _ _ _ _, by repeat (first | (with_reducible first | exact HB.out | apply below_alloc | apply pw_below_drewN | apply below_drew1 | refine below_set ?_ GE108.out | refine below_set ?_ GE109.out | refine below_set ?_ GE110.out | refine below_set ?_ GE118.out) | exact HB.out)⟩
 ·rw [if_neg c4] at H
  have c4b0 : (t111 == 0) = false := beq_eq_false_iff_ne.mpr c4
  have c4b1 : (t111 != 0) = true := bne_iff_ne.mpr c4
  simp only [Option.some.injEq, Prod.mk.injEq] at H
  obtain ⟨rfl, rfl, rfl, rfl⟩ := H
  go_enter Try.func14, Try.ntmps14
  go_wp2_with (first | ((with_reducible refine gate_dst (N := 2) rfl ?_); refine box_event ?hg (N := 2) ?hd (cs := #[.int .i64 a0_0, .int .i64 a0_1, .slice A0_2 l0_2.length c0_2]) (t := 24) ?hr ?_; (case hd => rfl); (case hg => rfl); (case hr => first | (go_simp; done) | (go_simp; rfl)); intro gb108 hg w78 hbox hb; have n0_ := Aside0.mk (below_step (hb0 HB) hb); have n1_ := Aside0.mk (hbox); have n2_ := Aside0.mk ((by rw [hg]; exact (below_size (hb0 HB)) : w.heap.size ≤ gb108)); have n3_ := Aside0.mk ((by rw [hg]; exact (below_size (hb0 HB)) : w.heap.size ≤ gb108)); clear HB; have HB := n0_; have BK108 := n1_; have GW108 := n2_; have GE108 := n3_; clear n0_ n1_ n2_ n3_; clear hb hbox hg) | ((with_reducible refine gate_dst (N := 3) rfl ?_); refine box_event ?hg (N := 3) ?hd (cs := #[.int .i64 a1_0, .int .i64 a1_1, .int .i64 a1_2, .int .i64 a1_3]) (t := 26) ?hr ?_; (case hd => rfl); (case hg => rfl); (case hr => first | (go_simp; done) | (go_simp; rfl)); intro gb109 hg w79 hbox hb; have n0_ := Aside0.mk (blk_below (bkx BK108) hb); have n1_ := Aside0.mk (below_step (hb1 HB GE108) hb); have n2_ := Aside0.mk (hbox); have n3_ := Aside0.mk ((by rw [hg]; exact (below_size (hb1 HB GE108)) : w.heap.size ≤ gb109)); have n4_ := Aside0.mk ((by rw [hg]; exact (below_size (hb1 HB GE108)) : w.heap.size ≤ gb109)); have n5_ := Aside0.mk (nel hg BK108 : gb108 ≠ gb109); have n6_ := Aside0.mk (neg hg BK108 : gb109 ≠ gb108); clear BK108; clear HB; have BK108 := n0_; have HB := n1_; have BK109 := n2_; have GW109 := n3_; have GE109 := n4_; have NB108_109 := n5_; have NB109_108 := n6_; clear n0_ n1_ n2_ n3_ n4_ n5_ n6_; clear hb hbox hg) | ((with_reducible refine gate_dst (N := 4) rfl ?_); refine box_event ?hg (N := 4) ?hd (cs := #[.int .i64 0, .int .i64 0, .slice none 0 0]) (t := 24) ?hr ?_; (case hd => rfl); (case hg => rfl); (case hr => first | (go_simp; done) | (go_simp; rfl)); intro gb110 hg w80 hbox hb; have n0_ := Aside0.mk (blk_below (bkx BK108) hb); have n1_ := Aside0.mk (blk_below (bkx BK109) hb); have n2_ := Aside0.mk (below_step (hb2 HB GE108 GE109) hb); have n3_ := Aside0.mk (hbox); have n4_ := Aside0.mk ((by rw [hg]; exact (below_size (hb2 HB GE108 GE109)) : w.heap.size ≤ gb110)); have n5_ := Aside0.mk ((by rw [hg]; exact (below_size (hb2 HB GE108 GE109)) : w.heap.size ≤ gb110)); have n6_ := Aside0.mk (nel hg BK108 : gb108 ≠ gb110); have n7_ := Aside0.mk (neg hg BK108 : gb110 ≠ gb108); have n8_ := Aside0.mk (nel hg BK109 : gb109 ≠ gb110); have n9_ := Aside0.mk (neg hg BK109 : gb110 ≠ gb109); clear BK108; clear BK109; clear HB; have BK108 := n0_; have BK109 := n1_; have HB := n2_; have BK110 := n3_; have GW110 := n4_; have GE110 := n5_; have NB108_110 := n6_; have NB110_108 := n7_; have NB109_110 := n8_; have NB110_109 := n9_; clear n0_ n1_ n2_ n3_ n4_ n5_ n6_ n7_ n8_ n9_; clear hb hbox hg; have hnb81 := NB108_109.out; have hnc81 := NB109_108.out; have hnb82 := NB108_110.out; have hnc82 := NB110_108.out; have hcz83_0 : w80.cell? ⟨gb108, 0, none⟩ = some (.int .i64 a0_0) := (blk_cell BK108.out 0).trans rfl; have hcz83_1 : w80.cell? ⟨gb108, 1, none⟩ = some (.int .i64 a0_1) := (blk_cell BK108.out 1).trans rfl; have hcz83_2 : w80.cell? ⟨gb108, 2, none⟩ = some (.slice A0_2 l0_2.length c0_2) := (blk_cell BK108.out 2).trans rfl; have hfz83_0 := blk_frozen BK108.out 0; have hfz83_1 := blk_frozen BK108.out 1; have hfz83_2 := blk_frozen BK108.out 2) | ((with_reducible refine gate_callee (f := 23) rfl ?_); refine goesL_ (some 15) rfl rfl Try.func23 (by kernel_rfl) rfl #[.agg #[.int .i64 a0_0, .int .i64 a0_1, .slice A0_2 l0_2.length c0_2]] rfl mapx ?_; (with_reducible refine (raster_Check.calls a0_0 a0_1 _ _ l0_2 t111 _ ?side1 ?side2 A3.out).mono ?_); (case side1 => repeat (first | exact (Kd.C_below HR0_2.out HB.out) | (with_reducible refine Kd.C_alloc ?_ _) | (with_reducible refine Kd.C_drewN ?_ _) | (with_reducible refine Kd.C_drew ?_))); (case side2 => exact HC0_2.out); rintro e w84 ⟨rfl, hb⟩; refine ⟨_, rfl, ?_⟩; have n0_ := Aside0.mk (blk_below (bkx BK108) hb); have n1_ := Aside0.mk (blk_below (bkx BK109) hb); have n2_ := Aside0.mk (blk_below (bkx BK110) hb); have n3_ := Aside0.mk (below_step (hb3 HB GE108 GE109 GE110) hb); clear BK108; clear BK109; clear BK110; clear HB; have BK108 := n0_; have BK109 := n1_; have BK110 := n2_; have HB := n3_; clear n0_ n1_ n2_ n3_; (try clear hb); (try clear hb2); (try clear hk); (try clear hi); have hnb85 := NB110_109.out; have hnc85 := NB109_110.out; have hcz86_0 : w84.cell? ⟨gb110, 0, none⟩ = some (.int .i64 0) := (blk_cell BK110.out 0).trans rfl; have hcz86_1 : w84.cell? ⟨gb110, 1, none⟩ = some (.int .i64 0) := (blk_cell BK110.out 1).trans rfl; have hcz86_2 : w84.cell? ⟨gb110, 2, none⟩ = some (.slice none 0 0) := (blk_cell BK110.out 2).trans rfl; have hfz86_0 := blk_frozen BK110.out 0; have hfz86_1 := blk_frozen BK110.out 1; have hfz86_2 := blk_frozen BK110.out 2))
  refine bodyPost_ret (results_ct rfl _ _ gb110 24 #[.int .i64 0, .int .i64 0, .slice none 0 0] (0, 0) _ rfl (by refine bkt ?_; refine blk_put (cs := #[.int .i64 0, .int .i64 0, .slice none 0 0]) ?_ 2 _ rfl; refine bkt ?_; refine blk_put (cs := #[.int .i64 0, .int .i64 0, .slice none 0 0]) ?_ 1 _ rfl; refine bkt ?_; refine blk_put (cs := #[.int .i64 0, .int .i64 0, .slice none 0 0]) ?_ 0 _ rfl; refine bkt ?_; exact BK110.out) Try.underlying24 rfl (by kernel_rfl)) rfl ?_
  exact ⟨_, by first | rfl | (simp [errW_none, errW_some] <;> rfl) | (simp [*, errW_none, errW_some] <;> rfl), by first | exact Kd.R_nil _ _ _ _ _ | exact Kd.N_nil _ _ _ _ _ | exact Kd.V_nil _ _ _ _ _ | exact Kd.Q_nil _ _ _ _ _ | exact Kd.S_nil _ _ _ _ _, by repeat (first | (with_reducible first | exact HB.out | apply below_alloc | apply pw_below_drewN | apply below_drew1 | refine below_set ?_ GE108.out | refine below_set ?_ GE109.out | refine below_set ?_ GE110.out) | exact HB.out)⟩

end Go.Proofs.Ytcmcmoaikabfoaa.PR
