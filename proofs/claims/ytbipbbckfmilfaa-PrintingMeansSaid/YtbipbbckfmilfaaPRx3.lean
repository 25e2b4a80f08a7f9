-- Written by this session's own program (myprint.py).
import Derived.Test.YtbipbbckfmilfaaPRx0
import Derived.Test.YtbipbbckfmilfaaPRx2
namespace Go.Proofs.Ytbipbbckfmilfaa.PR
open Go.RowKit Go.Proofs.YtbipbbckfmilfaaW.PrintWords Go.Proofs.YtbipbbckfmilfaaW.PrintLast Go.Proofs.YtbipbbckfmilfaaW.PrintMore Go.Proofs.Ytbipbbckfmilfaa.XWords Go.Proofs.Ytbipbbckfmilfaa.XShort Go.Proofs.Ytbipbbckfmilfaa.XFn
attribute [local go_sem] max2_int min2_int max_two min_two max_three min_three max_four min_four   -- for this text's walks alone
set_option linter.unusedVariables false
set_option linter.unusedSimpArgs false

/-! ### printing_degradations_1: function 53 -/
def printing_degradations_1.f (k : Nat) (a0_0 : Int) (a0_1 : Int) (l0_2 : List Int) (a1_0 : Int) (a1_1 : Int) (a1_2 : Int) (a1_3 : Int) : Option (Int × Int × List Int) := (raster_TurnImage.f k a0_0 a0_1 l0_2 a1_0).bind fun bt123 => (some (bt123.1, bt123.2.1, bt123.2.2.1))
theorem printing_degradations_1.mono : ∀ a0 a1 a2 a3 a4 a5 a6 k, LeO (printing_degradations_1.f k a0 a1 a2 a3 a4 a5 a6) (printing_degradations_1.f (k + 1) a0 a1 a2 a3 a4 a5 a6) := by
 intro a0 a1 a2 a3 a4 a5 a6 k
 unfold printing_degradations_1.f
 repeat' first
   | (with_reducible exact raster_TurnImage.mono _ _ _ _ _)
   | (with_reducible exact LeO.refl _)
   | (with_reducible exact LeO.none _)
   | (with_reducible refine LeO.ite ?_ ?_)
   | (with_reducible refine LeO.bind ?_ (fun _ => ?_))
   | exact raster_TurnImage.mono _ _ _ _ _
   | exact LeO.none _
   | refine LeO.ite ?_ ?_
   | refine LeO.bind ?_ (fun _ => ?_)
set_option maxHeartbeats 8000000 in
set_option maxRecDepth 100000 in
theorem printing_degradations_1.calls (k : Nat) (a0_0 : Int) (a0_1 : Int) (A0_2 : Option Addr) (c0_2 : Nat) (l0_2 : List Int) (a1_0 : Int) (a1_1 : Int) (a1_2 : Int) (a1_3 : Int) (r1 : Int) (r2 : Int) (r3 : List Int) (w : World) (gb120 : Nat) (hbd_ : w.heap[gb120]? = some (.cells #[.int .i64 a1_0, .int .i64 a1_1, .int .i64 a1_2, .int .u32 a1_3] 38 (0, 0))) (hr0_2 : Kd.C (Kd.int .u8) w A0_2 l0_2.length l0_2) (hc0_2 : l0_2.length ≤ c0_2) (h : printing_degradations_1.f k a0_0 a0_1 l0_2 a1_0 a1_1 a1_2 a1_3 = some (r1, r2, r3)) :
  Calls Try.prog 53 #[.agg #[.int .i64 a0_0, .int .i64 a0_1, .slice A0_2 l0_2.length c0_2], .pointer (some ⟨gb120, 0, none⟩)] w fun e w' => ∃ v2_ : Value, e = .returned (.agg #[.int .i64 r1, .int .i64 r2, v2_]) ∧ Kd.R (Kd.int .u8) 5 w' w.heap.size (fun _ => True) v2_ r3 ∧ Below w.heap.size w w' := by
 have hu38 := Try.underlying38
 have hu24 := Try.underlying24
 have HR0_2 := Aside0.mk hr0_2
 have HC0_2 := Aside0.mk hc0_2
 clear hr0_2 hc0_2
 have HB := Aside0.mk (Below.refl w.heap.size w)
 have BK120 := Aside0.mk hbd_
 have GW120 : Aside0 True := ⟨trivial⟩
 have GE120 : Aside0 True := ⟨trivial⟩
 clear hbd_
 have H : ((raster_TurnImage.f k a0_0 a0_1 l0_2 a1_0).bind fun bt123 => (some (bt123.1, bt123.2.1, bt123.2.2.1))) = some (r1, r2, r3) := h
 clear h
 replace H := Option.bind_eq_some_iff.mp H
 obtain ⟨⟨t123, t124, t125, t128⟩, A30, H⟩ := H
 replace H : (some (t123, t124, t125)) = some (r1, r2, r3) := H
 have A3 := Aside0.mk A30
 clear A30
 simp only [Option.some.injEq, Prod.mk.injEq] at H
 obtain ⟨rfl, rfl, rfl⟩ := H
 go_enter Try.func53, Try.ntmps53
 go_wp2_with (first | ((with_reducible refine gate_dst (N := 2) rfl ?_); refine box_event ?hg (N := 2) ?hd (cs := #[.int .i64 a0_0, .int .i64 a0_1, .slice A0_2 l0_2.length c0_2]) (t := 24) ?hr ?_; (case hd => rfl); (case hg => rfl); (case hr => first | (go_simp; done) | (go_simp; rfl)); intro gb121 hg w5 hbox hb; have n0_ := Aside0.mk (blk_below (bkx BK120) hb); have n1_ := Aside0.mk (below_step (hb1 HB GE120) hb); have n2_ := Aside0.mk (hbox); have n3_ := Aside0.mk ((by rw [hg]; exact (below_size (hb1 HB GE120)) : w.heap.size ≤ gb121)); have n4_ := Aside0.mk ((by rw [hg]; exact (below_size (hb1 HB GE120)) : w.heap.size ≤ gb121)); have n5_ := Aside0.mk (nel hg BK120 : gb120 ≠ gb121); have n6_ := Aside0.mk (neg hg BK120 : gb121 ≠ gb120); clear BK120; clear HB; have BK120 := n0_; have HB := n1_; have BK121 := n2_; have GW121 := n3_; have GE121 := n4_; have NB120_121 := n5_; have NB121_120 := n6_; clear n0_ n1_ n2_ n3_ n4_ n5_ n6_; clear hb hbox hg) | ((with_reducible refine gate_dst (N := 3) rfl ?_); refine box_event ?hg (N := 3) ?hd (cs := #[.int .i64 0, .int .i64 0, .slice none 0 0]) (t := 24) ?hr ?_; (case hd => rfl); (case hg => rfl); (case hr => first | (go_simp; done) | (go_simp; rfl)); intro gb122 hg w6 hbox hb; have n0_ := Aside0.mk (blk_below (bkx BK120) hb); have n1_ := Aside0.mk (blk_below (bkx BK121) hb); have n2_ := Aside0.mk (below_step (hb2 HB GE120 GE121) hb); have n3_ := Aside0.mk (hbox); have n4_ := Aside0.mk ((by rw [hg]; exact (below_size (hb2 HB GE120 GE121)) : w.heap.size ≤ gb122)); have n5_ := Aside0.mk ((by rw [hg]; exact (below_size (hb2 HB GE120 GE121)) : w.heap.size ≤ gb122)); have n6_ := Aside0.mk (nel hg BK120 : gb120 ≠ gb122); have n7_ := Aside0.mk (neg hg BK120 : gb122 ≠ gb120); have n8_ := Aside0.mk (nel hg BK121 : gb121 ≠ gb122); have n9_ := Aside0.mk (neg hg BK121 : gb122 ≠ gb121); clear BK120; clear BK121; clear HB; have BK120 := n0_; have BK121 := n1_; have HB := n2_; have BK122 := n3_; have GW122 := n4_; have GE122 := n5_; have NB120_122 := n6_; have NB122_120 := n7_; have NB121_122 := n8_; have NB122_121 := n9_; clear n0_ n1_ n2_ n3_ n4_ n5_ n6_ n7_ n8_ n9_; clear hb hbox hg; have hnb7 := NB121_120.out; have hnc7 := NB120_121.out; have hnb8 := NB121_122.out; have hnc8 := NB122_121.out; have hcz9_0 : w6.cell? ⟨gb121, 0, none⟩ = some (.int .i64 a0_0) := (blk_cell BK121.out 0).trans rfl; have hcz9_1 : w6.cell? ⟨gb121, 1, none⟩ = some (.int .i64 a0_1) := (blk_cell BK121.out 1).trans rfl; have hcz9_2 : w6.cell? ⟨gb121, 2, none⟩ = some (.slice A0_2 l0_2.length c0_2) := (blk_cell BK121.out 2).trans rfl; have hfz9_0 := blk_frozen BK121.out 0; have hfz9_1 := blk_frozen BK121.out 1; have hfz9_2 := blk_frozen BK121.out 2; have hnb10 := NB120_122.out; have hnc10 := NB122_120.out; have hcz11_0 : w6.cell? ⟨gb120, 0, none⟩ = some (.int .i64 a1_0) := (blk_cell BK120.out 0).trans rfl; have hcz11_1 : w6.cell? ⟨gb120, 1, none⟩ = some (.int .i64 a1_1) := (blk_cell BK120.out 1).trans rfl; have hcz11_2 : w6.cell? ⟨gb120, 2, none⟩ = some (.int .i64 a1_2) := (blk_cell BK120.out 2).trans rfl; have hcz11_3 : w6.cell? ⟨gb120, 3, none⟩ = some (.int .u32 a1_3) := (blk_cell BK120.out 3).trans rfl; have hfz11_0 := blk_frozen BK120.out 0; have hfz11_1 := blk_frozen BK120.out 1; have hfz11_2 := blk_frozen BK120.out 2; have hfz11_3 := blk_frozen BK120.out 3) | ((with_reducible refine gate_callee (f := 54) rfl ?_); refine goesL_ (some 10) rfl rfl Try.func54 (by kernel_rfl) rfl #[.agg #[.int .i64 a0_0, .int .i64 a0_1, .slice A0_2 l0_2.length c0_2], .int .i64 a1_0] rfl mapx ?_; (with_reducible refine (raster_TurnImage.calls k a0_0 a0_1 _ _ l0_2 a1_0 t123 t124 t125 t128 _ ?side1 ?side2 A3.out).mono ?_); (case side1 => repeat (first | exact (Kd.C_below HR0_2.out HB.out) | (with_reducible refine Kd.C_alloc ?_ _) | (with_reducible refine Kd.C_drewN ?_ _) | (with_reducible refine Kd.C_drew ?_))); (case side2 => exact HC0_2.out); rintro e w12 ⟨v126, rfl, ho0, hb⟩; refine ⟨_, rfl, ?_⟩; have n0_ := Aside0.mk (Kd.R_lower ho0 (below_size (hb3 HB GE120 GE121 GE122))); have n1_ := Aside0.mk (blk_below (bkx BK120) hb); have n2_ := Aside0.mk (blk_below (bkx BK121) hb); have n3_ := Aside0.mk (blk_below (bkx BK122) hb); have n4_ := Aside0.mk (below_step (hb3 HB GE120 GE121 GE122) hb); clear BK120; clear BK121; clear BK122; clear HB; have HO127 := n0_; have BK120 := n1_; have BK121 := n2_; have BK122 := n3_; have HB := n4_; clear n0_ n1_ n2_ n3_ n4_; (try clear hb); (try clear hb2); (try clear hk); (try clear hi); (try clear ho0)) | ((with_reducible refine gate_dst (N := 4) rfl ?_); refine box_event ?hg (N := 4) ?hd (cs := #[.int .i64 0, .int .i64 0, .slice none 0 0]) (t := 24) ?hr ?_; (case hd => rfl); (case hg => rfl); (case hr => first | (go_simp; done) | (go_simp; rfl)); intro gb129 hg w13 hbox hb; have n0_ := Aside0.mk (Kd.R_below (rkx HO127) hb); have n1_ := Aside0.mk (blk_below (bkx BK120) hb); have n2_ := Aside0.mk (blk_below (bkx BK121) hb); have n3_ := Aside0.mk (blk_below (bkx BK122) hb); have n4_ := Aside0.mk (below_step (hb3 HB GE120 GE121 GE122) hb); have n5_ := Aside0.mk (hbox); have n6_ := Aside0.mk ((by rw [hg]; exact (below_size (hb3 HB GE120 GE121 GE122)) : w.heap.size ≤ gb129)); have n7_ := Aside0.mk ((by rw [hg]; exact (below_size (hb3 HB GE120 GE121 GE122)) : w.heap.size ≤ gb129)); have n8_ := Aside0.mk (nel hg BK120 : gb120 ≠ gb129); have n9_ := Aside0.mk (neg hg BK120 : gb129 ≠ gb120); have n10_ := Aside0.mk (nel hg BK121 : gb121 ≠ gb129); have n11_ := Aside0.mk (neg hg BK121 : gb129 ≠ gb121); have n12_ := Aside0.mk (nel hg BK122 : gb122 ≠ gb129); have n13_ := Aside0.mk (neg hg BK122 : gb129 ≠ gb122); clear HO127; clear BK120; clear BK121; clear BK122; clear HB; have HO127 := n0_; have BK120 := n1_; have BK121 := n2_; have BK122 := n3_; have HB := n4_; have BK129 := n5_; have GW129 := n6_; have GE129 := n7_; have NB120_129 := n8_; have NB129_120 := n9_; have NB121_129 := n10_; have NB129_121 := n11_; have NB122_129 := n12_; have NB129_122 := n13_; clear n0_ n1_ n2_ n3_ n4_ n5_ n6_ n7_ n8_ n9_ n10_ n11_ n12_ n13_; clear hb hbox hg; have hnb14 := NB129_120.out; have hnc14 := NB120_129.out; have hnb15 := NB129_121.out; have hnc15 := NB121_129.out; have hnb16 := NB129_122.out; have hnc16 := NB122_129.out; have hcz17_0 : w13.cell? ⟨gb129, 0, none⟩ = some (.int .i64 0) := (blk_cell BK129.out 0).trans rfl; have hcz17_1 : w13.cell? ⟨gb129, 1, none⟩ = some (.int .i64 0) := (blk_cell BK129.out 1).trans rfl; have hcz17_2 : w13.cell? ⟨gb129, 2, none⟩ = some (.slice none 0 0) := (blk_cell BK129.out 2).trans rfl; have hfz17_0 := blk_frozen BK129.out 0; have hfz17_1 := blk_frozen BK129.out 1; have hfz17_2 := blk_frozen BK129.out 2; obtain ⟨Ao18, co18, eo18⟩ := Kd.R_slice HO127.out; subst eo18; have hcz19_0 : w13.cell? ⟨gb122, 0, none⟩ = some (.int .i64 0) := (blk_cell BK122.out 0).trans rfl; have hcz19_1 : w13.cell? ⟨gb122, 1, none⟩ = some (.int .i64 0) := (blk_cell BK122.out 1).trans rfl; have hcz19_2 : w13.cell? ⟨gb122, 2, none⟩ = some (.slice none 0 0) := (blk_cell BK122.out 2).trans rfl; have hfz19_0 := blk_frozen BK122.out 0; have hfz19_1 := blk_frozen BK122.out 1; have hfz19_2 := blk_frozen BK122.out 2))
 refine bodyPost_ret (results_cell_row rfl _ _ gb122 24 #[.int .i64 t123, .int .i64 t124, .slice Ao18 t125.length co18] (0, 0) _ rfl (by refine bkt ?_; refine blk_put (cs := #[.int .i64 t123, .int .i64 t124, .slice none 0 0]) ?_ 2 _ rfl; refine bkt ?_; refine blk_put (cs := #[.int .i64 t123, .int .i64 0, .slice none 0 0]) ?_ 1 _ rfl; refine bkt ?_; refine blk_put (cs := #[.int .i64 0, .int .i64 0, .slice none 0 0]) ?_ 0 _ rfl; refine bkt ?_; refine blk_far ?_ NB122_129.out _; refine bkt ?_; refine blk_far ?_ NB122_129.out _; refine bkt ?_; refine blk_far ?_ NB122_129.out _; refine bkt ?_; exact BK122.out) Try.underlying24 rfl (by kernel_rfl)) rfl ?_
 exact ⟨_, by first | rfl | (simp [errW_none, errW_some] <;> rfl) | (simp [*, errW_none, errW_some] <;> rfl), by refine rkt ?_; exact Kd.R_mono (Kd.R_far (p := ⟨gb122, 2, none⟩) (Kd.R_far (p := ⟨gb122, 1, none⟩) (Kd.R_far (p := ⟨gb122, 0, none⟩) (Kd.R_far (p := ⟨gb129, 2, none⟩) (Kd.R_far (p := ⟨gb129, 1, none⟩) (Kd.R_far (p := ⟨gb129, 0, none⟩) (Kd.R_types (Kd.R_types HO127.out BK129.out (by decide)) BK122.out (by decide)) (fun _ hk => hk.1.2) (.int .i64 t123)) (fun _ hk => hk.1.2) (.int .i64 t124)) (fun _ hk => hk.1.2) (.slice Ao18 t125.length co18)) (fun _ hk => hk.2) (.int .i64 t123)) (fun _ hk => hk.2) (.int .i64 t124)) (fun _ hk => hk.2) (.slice Ao18 t125.length co18)) (fun _ hk => trivial), by repeat (first | (with_reducible first | exact HB.out | apply below_alloc | apply pw_below_drewN | apply below_drew1 | refine below_set ?_ GE120.out | refine below_set ?_ GE121.out | refine below_set ?_ GE122.out | refine below_set ?_ GE129.out) | exact HB.out)⟩


/-! ### printing_window: function 31 -/
mutual
def printing_window.l0 : Nat → List Int → Int → Int → List Int → Int → Int → Option (List Int)
 | 0, _, _, _, _, _, _ => none
 | k + 1, x0, x1, x2, x7, x8, x9 => if x9 < (wrap64 ((x0.length : Int) + x1)) then (if (wrap64 (x9 + x1)) < (x0.length : Int) then (if 0 ≤ (wrap64 (x9 + x1)) then (printing_window.j1 k x0 x1 x2 x7 (wrap64 (x8 + (wrap64 ((rd x0 (wrap64 (x9 + x1))) - x2)))) x9) else (none)) else (printing_window.j1 k x0 x1 x2 x7 x8 x9)) else (some x7)
def printing_window.j1 : Nat → List Int → Int → Int → List Int → Int → Int → Option (List Int)
 | 0, _, _, _, _, _, _ => none
 | k + 1, x0, x1, x2, x7, x8, x9 => if (wrap64 ((wrap64 (x9 - x1)) - 1)) ≥ 0 then (printing_window.j2 k x0 x1 x2 x7 x8 x9 (wrap64 ((wrap64 (x9 - x1)) - 1)) (decide ((wrap64 ((wrap64 (x9 - x1)) - 1)) < (x0.length : Int)))) else (printing_window.j2 k x0 x1 x2 x7 x8 x9 (wrap64 ((wrap64 (x9 - x1)) - 1)) false)
def printing_window.j2 : Nat → List Int → Int → Int → List Int → Int → Int → Int → Bool → Option (List Int)
 | 0, _, _, _, _, _, _, _, _ => none
 | k + 1, x0, x1, x2, x7, x8, x9, x11, x56 => if x56 = true then (if 0 ≤ x11 then (if x11 < (x0.length : Int) then (if x9 ≥ 0 then (if x9 < (x0.length : Int) then (if 0 ≤ x9 then (if x9 < (x7.length : Int) then (printing_window.l0 k x0 x1 x2 (x7.set (x9 : Int).toNat (wrap64 (x8 + (wrap64 (x2 - (rd x0 x11)))))) (wrap64 (x8 + (wrap64 (x2 - (rd x0 x11))))) (wrap64 (x9 + 1))) else (none)) else (none)) else (printing_window.l0 k x0 x1 x2 x7 (wrap64 (x8 + (wrap64 (x2 - (rd x0 x11))))) (wrap64 (x9 + 1)))) else (printing_window.l0 k x0 x1 x2 x7 (wrap64 (x8 + (wrap64 (x2 - (rd x0 x11))))) (wrap64 (x9 + 1)))) else (none)) else (none)) else (if x9 ≥ 0 then (if x9 < (x0.length : Int) then (if 0 ≤ x9 then (if x9 < (x7.length : Int) then (printing_window.l0 k x0 x1 x2 (x7.set (x9 : Int).toNat x8) x8 (wrap64 (x9 + 1))) else (none)) else (none)) else (printing_window.l0 k x0 x1 x2 x7 x8 (wrap64 (x9 + 1)))) else (printing_window.l0 k x0 x1 x2 x7 x8 (wrap64 (x9 + 1))))
end
def printing_window.f (k : Nat) (l0 : List Int) (a1 : Int) (a2 : Int) : Option (List Int) := if 0 ≤ (l0.length : Int) then (if ((l0.length : Int) : Int).toNat ≤ 35184372088832 then (printing_window.l0 k l0 a1 a2 (List.replicate ((l0.length : Int) : Int).toNat 0) (wrap64 ((wrap64 ((wrap64 (2 * a1)) + 1)) * a2)) (wrap64 (-a1))) else (none)) else (none)
theorem printing_window.mono_l : ∀ k, (∀ y0 y1 y2 y3 y4 y5, LeO (printing_window.l0 k y0 y1 y2 y3 y4 y5) (printing_window.l0 (k + 1) y0 y1 y2 y3 y4 y5)) ∧ (∀ y0 y1 y2 y3 y4 y5, LeO (printing_window.j1 k y0 y1 y2 y3 y4 y5) (printing_window.j1 (k + 1) y0 y1 y2 y3 y4 y5)) ∧ (∀ y0 y1 y2 y3 y4 y5 y6 y7, LeO (printing_window.j2 k y0 y1 y2 y3 y4 y5 y6 y7) (printing_window.j2 (k + 1) y0 y1 y2 y3 y4 y5 y6 y7))
 | 0 => ⟨fun _ _ _ _ _ _ r h => by simp [printing_window.l0] at h, fun _ _ _ _ _ _ r h => by simp [printing_window.j1] at h, fun _ _ _ _ _ _ _ _ r h => by simp [printing_window.j2] at h⟩
 | k + 1 => by
  obtain ⟨ih0, ih1, ih2⟩ := printing_window.mono_l k
  refine ⟨?_, ?_, ?_⟩
  ·intro y0 y1 y2 y3 y4 y5
   unfold printing_window.l0
   repeat' first
   | (with_reducible exact ih0 _ _ _ _ _ _)
   | (with_reducible exact ih1 _ _ _ _ _ _)
   | (with_reducible exact ih2 _ _ _ _ _ _ _ _)
   | (with_reducible exact LeO.refl _)
   | (with_reducible exact LeO.none _)
   | (with_reducible refine LeO.ite ?_ ?_)
   | (with_reducible refine LeO.bind ?_ (fun _ => ?_))
   | exact ih0 _ _ _ _ _ _
   | exact ih1 _ _ _ _ _ _
   | exact ih2 _ _ _ _ _ _ _ _
   | exact LeO.none _
   | refine LeO.ite ?_ ?_
   | refine LeO.bind ?_ (fun _ => ?_)
  ·intro y0 y1 y2 y3 y4 y5
   unfold printing_window.j1
   repeat' first
   | (with_reducible exact ih0 _ _ _ _ _ _)
   | (with_reducible exact ih1 _ _ _ _ _ _)
   | (with_reducible exact ih2 _ _ _ _ _ _ _ _)
   | (with_reducible exact LeO.refl _)
   | (with_reducible exact LeO.none _)
   | (with_reducible refine LeO.ite ?_ ?_)
   | (with_reducible refine LeO.bind ?_ (fun _ => ?_))
   | exact ih0 _ _ _ _ _ _
   | exact ih1 _ _ _ _ _ _
   | exact ih2 _ _ _ _ _ _ _ _
   | exact LeO.none _
   | refine LeO.ite ?_ ?_
   | refine LeO.bind ?_ (fun _ => ?_)
  ·intro y0 y1 y2 y3 y4 y5 y6 y7
   unfold printing_window.j2
   repeat' first
   | (with_reducible exact ih0 _ _ _ _ _ _)
   | (with_reducible exact ih1 _ _ _ _ _ _)
   | (with_reducible exact ih2 _ _ _ _ _ _ _ _)
   | (with_reducible exact LeO.refl _)
   | (with_reducible exact LeO.none _)
   | (with_reducible refine LeO.ite ?_ ?_)
   | (with_reducible refine LeO.bind ?_ (fun _ => ?_))
   | exact ih0 _ _ _ _ _ _
   | exact ih1 _ _ _ _ _ _
   | exact ih2 _ _ _ _ _ _ _ _
   | exact LeO.none _
   | refine LeO.ite ?_ ?_
   | refine LeO.bind ?_ (fun _ => ?_)
theorem printing_window.mono : ∀ a0 a1 a2 k, LeO (printing_window.f k a0 a1 a2) (printing_window.f (k + 1) a0 a1 a2) := by
 intro a0 a1 a2 k
 obtain ⟨ih0, ih1, ih2⟩ := printing_window.mono_l k
 unfold printing_window.f
 repeat' first
   | (with_reducible exact ih0 _ _ _ _ _ _)
   | (with_reducible exact ih1 _ _ _ _ _ _)
   | (with_reducible exact ih2 _ _ _ _ _ _ _ _)
   | (with_reducible exact LeO.refl _)
   | (with_reducible exact LeO.none _)
   | (with_reducible refine LeO.ite ?_ ?_)
   | (with_reducible refine LeO.bind ?_ (fun _ => ?_))
   | exact ih0 _ _ _ _ _ _
   | exact ih1 _ _ _ _ _ _
   | exact ih2 _ _ _ _ _ _ _ _
   | exact LeO.none _
   | refine LeO.ite ?_ ?_
   | refine LeO.bind ?_ (fun _ => ?_)
set_option maxHeartbeats 8000000 in
set_option maxRecDepth 100000 in
theorem printing_window.calls (k : Nat) (A0 : Option Addr) (c0 : Nat) (l0 : List Int) (a1 : Int) (a2 : Int) (r : List Int) (w : World) (hr0 : Kd.C (Kd.int .i64) w A0 l0.length l0) (hc0 : l0.length ≤ c0) (h : printing_window.f k l0 a1 a2 = some r) :
  Calls Try.prog 31 #[.slice A0 l0.length c0, .int .i64 a1, .int .i64 a2] w fun e w' => ∃ v0_ : Value, e = .returned (v0_) ∧ Kd.R (Kd.int .i64) 3 w' w.heap.size (fun _ => True) v0_ r ∧ Below w.heap.size w w' := by
 have HR0 := Aside0.mk hr0
 have HC0 := Aside0.mk hc0
 clear hr0 hc0
 have HB := Aside0.mk (Below.refl w.heap.size w)
 have H : (if 0 ≤ (l0.length : Int) then (if ((l0.length : Int) : Int).toNat ≤ 35184372088832 then (printing_window.l0 k l0 a1 a2 (List.replicate ((l0.length : Int) : Int).toNat 0) (wrap64 ((wrap64 ((wrap64 (2 * a1)) + 1)) * a2)) (wrap64 (-a1))) else (none)) else (none)) = some r := h
 clear h
 by_cases c4 : 0 ≤ (l0.length : Int)
 ·rw [if_pos c4] at H
  have c4b0 := eq_true c4
  have c4b1 : decide (0 ≤ (l0.length : Int)) = true := decide_eq_true c4
  clear c4
  by_cases c5 : ((l0.length : Int) : Int).toNat ≤ 35184372088832
  ·rw [if_pos c5] at H
   have c5b0 := eq_true c5
   have c5b1 : decide (((l0.length : Int) : Int).toNat ≤ 35184372088832) = true := decide_eq_true c5
   clear c5
   obtain ⟨y120, hy120⟩ : ∃ y_ : List Int, y_ = (List.replicate ((l0.length : Int) : Int).toNat 0) := ⟨_, rfl⟩
   replace H : (printing_window.l0 k l0 a1 a2 y120 (wrap64 ((wrap64 ((wrap64 (2 * a1)) + 1)) * a2)) (wrap64 (-a1))) = some r := by first | (rw [hy120]; with_reducible exact H) | (have H2_ := (Option.bind_some _ _).symm.trans H; rw [hy120]; with_reducible exact H2_) | (have H2_ := (Option.bind_some _ _).symm.trans H; with_reducible exact H2_) | with_reducible exact H | (rw [hy120]; exact H) | exact H
   have Ny120 := Aside0.mk hy120
   clear hy120
   have H' := Aside0.mk H
   clear H
   go_enter Try.func31, Try.ntmps31
   go_wp2_with (first | ((with_reducible refine gate_dst (N := 14) rfl ?_); (try (refine gate_guard (by rfl) ?_; dsimp only)); refine Kd.R_make (Kd.int .i64) _ 3 rfl (N := 14) rfl 51 _ _ rfl (l0.length : Int) rfl rfl Try.underlying51 (.int .i64 0) 8 info3 rfl (by decide) (by omega) 0 (ok := fun _ => True) (okp := fun _ => True) rfl (fun _ hk => hk) trivial (of_decide_eq_true (by first | (with_reducible assumption) | assumption)) (Nat.le_trans (Nat.mul_le_mul_right _ (of_decide_eq_true (by first | (with_reducible assumption) | assumption) : (l0.length : Int).toNat ≤ 35184372088832)) (by omega)) (Below.refl _ _) (Nat.le_refl _) ?_; intro v121 w6 ho7 hb hg_ hnew_; clear hg_ hnew_; (first | rw [← Ny120.out] at ho7 | (simp only [Int.reduceToNat] at ho7; rw [← Ny120.out] at ho7)); have n0_ := Aside0.mk (Kd.R_lower ho7 (below_size (hb0 HB))); have n1_ := Aside0.mk (below_step (hb0 HB) hb); clear HB; have HO122 := n0_; have HB := n1_; clear n0_ n1_; clear hb ho7))
   go_loopg [8, 9] k (fun kq v8 v9 w' => ∃ (x7_1 : List Int) (x8_1 : Int) (x9_1 : Int), v8 = .int .i64 x8_1 ∧ v9 = .int .i64 x9_1 ∧ Aside0 (printing_window.l0 kq l0 a1 a2 x7_1 x8_1 x9_1 = some r) ∧ Aside0 (kq ≤ k) ∧ Aside0 (Kd.R (Kd.int .i64) 3 w' w.heap.size (fun _ => True) v121 x7_1) ∧ Aside0 (Below w.heap.size w w'))
   case atStart => exact ⟨(y120), (wrap64 ((wrap64 ((wrap64 (2 * a1)) + 1)) * a2)), (wrap64 (-a1)), (by first | rfl | (simp; done) | (simp [*]; done)), (by first | rfl | (simp; done) | (simp [*]; done)), H', ⟨Nat.le_refl _⟩, ⟨rkx HO122⟩, ⟨hb0 HB⟩⟩
   case round =>
    clear H'
    (try clear p2); (try clear c3); (try clear c4); (try clear c4b0); (try clear c4b1); (try clear c5); (try clear c5b0); (try clear c5b1); (try clear p6)
    obtain ⟨x7_1, x8_1, x9_1, rfl, rfl, HA, HK1, HO_7, HB⟩ := hrel
    cases gk with
    | zero => exact absurd HA.out (by simp [printing_window.l0])
    | succ k1 =>
     have H := HA.out
     clear HA
     simp only [printing_window.l0] at H
     by_cases c8 : x9_1 < (wrap64 ((l0.length : Int) + a1))
     ·rw [if_pos c8] at H
      have c8b0 : decide (x9_1 < (wrap64 ((l0.length : Int) + a1))) = true := decide_eq_true c8
      clear c8
      have HC9 := Aside0.mk H
      clear H
      go_upto_if 36 with (fail)
      go_cut [8] (fun v8 wc => ∃ (kq : Nat) (x8_8 : Int), v8 = .int .i64 x8_8 ∧ Aside0 (printing_window.j1 kq l0 a1 a2 x7_1 x8_8 x9_1 = some r) ∧ Aside0 (kq ≤ k1) ∧ Aside0 (Kd.R (Kd.int .i64) 3 wc w.heap.size (fun _ => True) v121 x7_1) ∧ Aside0 (Below w.heap.size w wc))
      case first =>
       have H := HC9.out
       clear HC9
       by_cases c10 : (wrap64 (x9_1 + a1)) < (l0.length : Int)
       ·rw [if_pos c10] at H
        have c10b0 : decide ((wrap64 (x9_1 + a1)) < (l0.length : Int)) = true := decide_eq_true c10
        clear c10
        (first | rw [c10b0] | (simp only [i64_w, i32_w]; rw [c10b0]) | skip)
        obtain ⟨ji11, hji11⟩ : ∃ j_ : Int, (wrap64 (x9_1 + a1)) = j_ := ⟨_, rfl⟩
        replace H : (if 0 ≤ (ji11) then (printing_window.j1 k1 l0 a1 a2 x7_1 (wrap64 (x8_1 + (wrap64 ((rd l0 (ji11)) - a2)))) x9_1) else (none)) = some r := by first | (rw [hji11] at H; exact H) | (simp only [hji11] at H ⊢; exact H)
        (try rw [hji11] at c10b0)
        have hji11w : (IntKind.i64.wrap (x9_1 + a1)) = ji11 := (i64_w _).trans hji11
        by_cases c12 : 0 ≤ (ji11)
        ·rw [if_pos c12] at H
         have c12b0 : decide (0 ≤ (ji11)) = true := decide_eq_true c12
         clear c12
         have H' := Aside0.mk H
         clear H
         have p123 : 0 ≤ ((ji11) : Int) := of_decide_eq_true (by first | (with_reducible assumption) | assumption)
         have q123 : (ji11) < (l0.length : Int) := of_decide_eq_true (by first | (with_reducible assumption) | assumption)
         obtain ⟨ad123, e123, hx123_0⟩ := Kd.at_int HR0.out (ji11) p123 q123
         cases e123
         replace hx123_0 := (HB.out.cell (World.block_lt_of_cell? w _ hx123_0)).trans hx123_0
         replace p123 := eq_true p123
         replace q123 := eq_true q123
         go_wp2
         go_meet
         case rel => exact ⟨_, (wrap64 (x8_1 + (wrap64 ((rd l0 (ji11)) - a2)))), (by first | rfl | (simp; done) | (simp only [← hji11] <;> (first | rfl | simp)) | (simp [*]; done)), H', ⟨by have := HK1.out; first | omega | exact Nat.le_refl _⟩, ⟨rkx HO_7⟩, ⟨hb0 HB⟩⟩
        ·rw [if_neg c12] at H
         exact absurd H (by simp)
       ·rw [if_neg c10] at H
        have c10b0 : decide ((wrap64 (x9_1 + a1)) < (l0.length : Int)) = false := decide_eq_false c10
        clear c10
        (first | rw [c10b0] | (simp only [i64_w, i32_w]; rw [c10b0]) | skip)
        have H' := Aside0.mk H
        clear H
        go_wp2
        go_meet
        case rel => exact ⟨_, (x8_1), (by first | rfl | (simp; done) | (simp [*]; done)), H', ⟨by have := HK1.out; first | omega | exact Nat.le_refl _⟩, ⟨rkx HO_7⟩, ⟨hb0 HB⟩⟩
      case rest =>
       clear HC9
       (try clear c1); (try clear p1); (try clear q1); (try clear hx1); (try clear p2); (try clear c3); (try clear c4); (try clear c4b0); (try clear c4b1); (try clear c5); (try clear c5b0); (try clear c5b1); (try clear p6); (try clear c8); (try clear c8b0); (try clear c10); (try clear c10b0); (try clear c12); (try clear c12b0); (try clear p12); (try clear q12); (try clear hx12); (try clear hx123_0); (try clear p123); (try clear p2); (try clear p6); (try clear q123)
       obtain ⟨kq, x8_8, rfl, HA, HJ8, HO_7, HB⟩ := hcut
       cases kq with
       | zero => exact absurd HA.out (by simp [printing_window.j1])
       | succ kj8 =>
        have H := HA.out
        clear HA
        simp only [printing_window.j1] at H
        have HC13 := Aside0.mk H
        clear H
        go_upto_region 10 with (fail)
        go_cut [56] (fun v56 wc => ∃ (kq : Nat) (x56_12 : Bool), v56 = .bool x56_12 ∧ Aside0 (printing_window.j2 kq l0 a1 a2 x7_1 x8_8 x9_1 (wrap64 ((wrap64 (x9_1 - a1)) - 1)) x56_12 = some r) ∧ Aside0 (kq ≤ kj8) ∧ Aside0 (Kd.R (Kd.int .i64) 3 wc w.heap.size (fun _ => True) v121 x7_1) ∧ Aside0 (Below w.heap.size w wc))
        case first =>
         have H := HC13.out
         clear HC13
         by_cases c14 : (wrap64 ((wrap64 (x9_1 - a1)) - 1)) ≥ 0
         ·rw [if_pos c14] at H
          have c14b0 : decide (0 ≤ (wrap64 ((wrap64 (x9_1 - a1)) - 1))) = true := decide_eq_true c14
          clear c14
          (first | rw [c14b0] | (simp only [i64_w, i32_w]; rw [c14b0]) | skip)
          have H' := Aside0.mk H
          clear H
          go_wp2
          go_meet
          case rel => exact ⟨_, (decide ((wrap64 ((wrap64 (x9_1 - a1)) - 1)) < (l0.length : Int))), (by first | rfl | (simp; done) | (simp [*]; done)), H', ⟨by have := HK1.out; have := HJ8.out; first | omega | exact Nat.le_refl _⟩, ⟨rkx HO_7⟩, ⟨hb0 HB⟩⟩
         ·rw [if_neg c14] at H
          have c14b0 : decide (0 ≤ (wrap64 ((wrap64 (x9_1 - a1)) - 1))) = false := decide_eq_false c14
          clear c14
          (first | rw [c14b0] | (simp only [i64_w, i32_w]; rw [c14b0]) | skip)
          have H' := Aside0.mk H
          clear H
          go_wp2
          go_meet
          case rel => exact ⟨_, (false), (by first | rfl | (simp; done) | (simp [*]; done)), H', ⟨by have := HK1.out; have := HJ8.out; first | omega | exact Nat.le_refl _⟩, ⟨rkx HO_7⟩, ⟨hb0 HB⟩⟩
        case rest =>
         clear HC13
         (try clear c1); (try clear p1); (try clear q1); (try clear hx1); (try clear p2); (try clear c3); (try clear c4); (try clear c4b0); (try clear c4b1); (try clear c5); (try clear c5b0); (try clear c5b1); (try clear p6); (try clear c8); (try clear c8b0); (try clear c10); (try clear c10b0); (try clear c12); (try clear c12b0); (try clear p12); (try clear q12); (try clear hx12); (try clear c14); (try clear c14b0); (try clear hx123_0); (try clear p1); (try clear p12); (try clear p123); (try clear p2); (try clear p6); (try clear q1); (try clear q12); (try clear q123)
         obtain ⟨kq, x56_12, rfl, HA, HJ12, HO_7, HB⟩ := hcut
         cases kq with
         | zero => exact absurd HA.out (by simp [printing_window.j2])
         | succ kj12 =>
          have H := HA.out
          clear HA
          simp only [printing_window.j2] at H
          by_cases c15 : x56_12 = true
          ·subst c15
           have H1 : (if 0 ≤ (wrap64 ((wrap64 (x9_1 - a1)) - 1)) then (if (wrap64 ((wrap64 (x9_1 - a1)) - 1)) < (l0.length : Int) then (if x9_1 ≥ 0 then (if x9_1 < (l0.length : Int) then (if 0 ≤ x9_1 then (if x9_1 < (x7_1.length : Int) then (printing_window.l0 kj12 l0 a1 a2 (x7_1.set (x9_1 : Int).toNat (wrap64 (x8_8 + (wrap64 (a2 - (rd l0 (wrap64 ((wrap64 (x9_1 - a1)) - 1)))))))) (wrap64 (x8_8 + (wrap64 (a2 - (rd l0 (wrap64 ((wrap64 (x9_1 - a1)) - 1))))))) (wrap64 (x9_1 + 1))) else (none)) else (none)) else (printing_window.l0 kj12 l0 a1 a2 x7_1 (wrap64 (x8_8 + (wrap64 (a2 - (rd l0 (wrap64 ((wrap64 (x9_1 - a1)) - 1))))))) (wrap64 (x9_1 + 1)))) else (printing_window.l0 kj12 l0 a1 a2 x7_1 (wrap64 (x8_8 + (wrap64 (a2 - (rd l0 (wrap64 ((wrap64 (x9_1 - a1)) - 1))))))) (wrap64 (x9_1 + 1)))) else (none)) else (none)) = some r := by rw [if_pos rfl] at H; exact H
           clear H
           have H := H1
           clear H1
           obtain ⟨ji16, hji16⟩ : ∃ j_ : Int, (wrap64 ((wrap64 (x9_1 - a1)) - 1)) = j_ := ⟨_, rfl⟩
           replace H : (if 0 ≤ (ji16) then (if (ji16) < (l0.length : Int) then (if x9_1 ≥ 0 then (if x9_1 < (l0.length : Int) then (if 0 ≤ x9_1 then (if x9_1 < (x7_1.length : Int) then (printing_window.l0 kj12 l0 a1 a2 (x7_1.set (x9_1 : Int).toNat (wrap64 (x8_8 + (wrap64 (a2 - (rd l0 (ji16))))))) (wrap64 (x8_8 + (wrap64 (a2 - (rd l0 (ji16)))))) (wrap64 (x9_1 + 1))) else (none)) else (none)) else (printing_window.l0 kj12 l0 a1 a2 x7_1 (wrap64 (x8_8 + (wrap64 (a2 - (rd l0 (ji16)))))) (wrap64 (x9_1 + 1)))) else (printing_window.l0 kj12 l0 a1 a2 x7_1 (wrap64 (x8_8 + (wrap64 (a2 - (rd l0 (ji16)))))) (wrap64 (x9_1 + 1)))) else (none)) else (none)) = some r := by first | (rw [hji16] at H; exact H) | (simp only [hji16] at H ⊢; exact H)
           have hji16w : (IntKind.i64.wrap ((wrap64 (x9_1 - a1)) - 1)) = ji16 := (i64_w _).trans hji16
           by_cases c17 : 0 ≤ (ji16)
           ·rw [if_pos c17] at H
            have c17b0 : decide (0 ≤ (ji16)) = true := decide_eq_true c17
            clear c17
            by_cases c18 : (ji16) < (l0.length : Int)
            ·rw [if_pos c18] at H
             have c18b0 : decide ((ji16) < (l0.length : Int)) = true := decide_eq_true c18
             clear c18
             by_cases c19 : x9_1 ≥ 0
             ·rw [if_pos c19] at H
              have c19b0 : decide (0 ≤ x9_1) = true := decide_eq_true c19
              clear c19
              by_cases c20 : x9_1 < (l0.length : Int)
              ·rw [if_pos c20] at H
               have c20b0 : decide (x9_1 < (l0.length : Int)) = true := decide_eq_true c20
               clear c20
               by_cases c21 : 0 ≤ x9_1
               ·rw [if_pos c21] at H
                have c21b0 : decide (0 ≤ x9_1) = true := decide_eq_true c21
                clear c21
                by_cases c22 : x9_1 < (x7_1.length : Int)
                ·rw [if_pos c22] at H
                 have c22b0 : decide (x9_1 < (x7_1.length : Int)) = true := decide_eq_true c22
                 clear c22
                 obtain ⟨y125, hy125⟩ : ∃ y_ : List Int, y_ = (x7_1.set (x9_1 : Int).toNat (wrap64 (x8_8 + (wrap64 (a2 - (rd l0 (ji16))))))) := ⟨_, rfl⟩
                 replace H : (printing_window.l0 kj12 l0 a1 a2 y125 (wrap64 (x8_8 + (wrap64 (a2 - (rd l0 (ji16)))))) (wrap64 (x9_1 + 1))) = some r := by first | (rw [hy125]; with_reducible exact H) | (have H2_ := (Option.bind_some _ _).symm.trans H; rw [hy125]; with_reducible exact H2_) | (have H2_ := (Option.bind_some _ _).symm.trans H; with_reducible exact H2_) | with_reducible exact H | (rw [hy125]; exact H) | exact H
                 have Ny125 := Aside0.mk hy125
                 clear hy125
                 have H' := Aside0.mk H
                 clear H
                 have p124 : 0 ≤ ((ji16) : Int) := of_decide_eq_true (by first | (with_reducible assumption) | assumption)
                 have q124 : (ji16) < (l0.length : Int) := of_decide_eq_true (by first | (with_reducible assumption) | assumption)
                 obtain ⟨ad124, e124, hx124_0⟩ := Kd.at_int HR0.out (ji16) p124 q124
                 cases e124
                 replace hx124_0 := (HB.out.cell (World.block_lt_of_cell? w _ hx124_0)).trans hx124_0
                 replace p124 := eq_true p124
                 replace q124 := eq_true q124
                 have p23 : 0 ≤ (x9_1 : Int) := of_decide_eq_true (by first | (with_reducible assumption) | assumption)
                 have q23 : (x9_1 : Int) < ((x7_1.length : Int) : Int) := of_decide_eq_true (by first | (with_reducible assumption) | assumption)
                 obtain ⟨go23, co23, eo23, gb23, gl23, cl23, HG23⟩ := Kd.R_form HO_7.out (by omega)
                 (first | cases eo23 | (injection eo23 with ea_ en_ ec_; (first | subst ea_ | (injection ea_ with ea_; subst ea_)); subst ec_; clear en_))
                 have GB23 := Aside0.mk gb23
                 have GG23 := Aside0.mk HG23
                 clear gb23 gl23 HG23
                 obtain ⟨hx23_0, hf23_0⟩ := Kd.R_celln 0 HO_7.out (x9_1 : Int) p23 q23
                 replace p23 := eq_true p23
                 replace q23 := eq_true q23
                 have HP24 := Kd.R_putg HO_7.out (x9_1 : Int) (wrap64 (x8_8 + (wrap64 (a2 - (rd l0 (ji16))))))
                 go_wp2_with (first | ((with_reducible refine gate_store (t := 3) (p := 76) rfl ?_); refine store_event (t := 3) (p := 76) (v := ?vo_w25) (w1 := (wc.setCell ⟨go23, (x9_1 : Int).toNat, none⟩ (.int .i64 (wrap64 (x8_8 + (wrap64 (a2 - (rd l0 (ji16))))))))) ?hg ?ho ?hn ?hr ?_; (case ho => rfl); (case hg => rfl); (case hn => rfl); (case hr => first | (go_simp; done) | (go_simp; rfl)); intro w25 hw; have hg : wc.grownBy w25 (some go23) := (by rw [hw]; exact HP24.2); have hp_ : Kd.R (Kd.int .i64) 3 w25 w.heap.size (fun _ => True) (.slice (some ⟨go23, 0, none⟩) x7_1.length co23) y125 := (by rw [hw, Ny125.out]; exact HP24.1); clear HP24; have n0_ := Aside0.mk (hp_); have n1_ := Aside0.mk ((by rw [hw]; exact below_set (HB.out) GB23.out : Below w.heap.size w w25)); clear HO_7; clear HB; have HO_7 := n0_; have HB := n1_; clear n0_ n1_; clear hg hw hp_))
                 go_roundg kj12
                 case measure => have := HK1.out; have := HJ8.out; have := HJ12.out; omega
                 case rel => exact ⟨(y125), (wrap64 (x8_8 + (wrap64 (a2 - (rd l0 (ji16)))))), (wrap64 (x9_1 + 1)), (by first | rfl | (simp; done) | (simp only [← hji16] <;> (first | rfl | simp)) | (simp [*]; done)), (by first | rfl | (simp; done) | (simp [*]; done)), H', ⟨by have := HK1.out; have := HJ8.out; have := HJ12.out; omega⟩, ⟨rkx HO_7⟩, ⟨hb0 HB⟩⟩
                ·rw [if_neg c22] at H
                 exact absurd H (by simp)
               ·rw [if_neg c21] at H
                exact absurd H (by simp)
              ·rw [if_neg c20] at H
               have c20b0 : decide (x9_1 < (l0.length : Int)) = false := decide_eq_false c20
               clear c20
               have H' := Aside0.mk H
               clear H
               have p124 : 0 ≤ ((ji16) : Int) := of_decide_eq_true (by first | (with_reducible assumption) | assumption)
               have q124 : (ji16) < (l0.length : Int) := of_decide_eq_true (by first | (with_reducible assumption) | assumption)
               obtain ⟨ad124, e124, hx124_0⟩ := Kd.at_int HR0.out (ji16) p124 q124
               cases e124
               replace hx124_0 := (HB.out.cell (World.block_lt_of_cell? w _ hx124_0)).trans hx124_0
               replace p124 := eq_true p124
               replace q124 := eq_true q124
               go_wp2
               go_roundg kj12
               case measure => have := HK1.out; have := HJ8.out; have := HJ12.out; omega
               case rel => exact ⟨(x7_1), (wrap64 (x8_8 + (wrap64 (a2 - (rd l0 (ji16)))))), (wrap64 (x9_1 + 1)), (by first | rfl | (simp; done) | (simp only [← hji16] <;> (first | rfl | simp)) | (simp [*]; done)), (by first | rfl | (simp; done) | (simp [*]; done)), H', ⟨by have := HK1.out; have := HJ8.out; have := HJ12.out; omega⟩, ⟨rkx HO_7⟩, ⟨hb0 HB⟩⟩
             ·rw [if_neg c19] at H
              have c19b0 : decide (0 ≤ x9_1) = false := decide_eq_false c19
              clear c19
              have H' := Aside0.mk H
              clear H
              have p124 : 0 ≤ ((ji16) : Int) := of_decide_eq_true (by first | (with_reducible assumption) | assumption)
              have q124 : (ji16) < (l0.length : Int) := of_decide_eq_true (by first | (with_reducible assumption) | assumption)
              obtain ⟨ad124, e124, hx124_0⟩ := Kd.at_int HR0.out (ji16) p124 q124
              cases e124
              replace hx124_0 := (HB.out.cell (World.block_lt_of_cell? w _ hx124_0)).trans hx124_0
              replace p124 := eq_true p124
              replace q124 := eq_true q124
              go_wp2
              go_roundg kj12
              case measure => have := HK1.out; have := HJ8.out; have := HJ12.out; omega
              case rel => exact ⟨(x7_1), (wrap64 (x8_8 + (wrap64 (a2 - (rd l0 (ji16)))))), (wrap64 (x9_1 + 1)), (by first | rfl | (simp; done) | (simp only [← hji16] <;> (first | rfl | simp)) | (simp [*]; done)), (by first | rfl | (simp; done) | (simp [*]; done)), H', ⟨by have := HK1.out; have := HJ8.out; have := HJ12.out; omega⟩, ⟨rkx HO_7⟩, ⟨hb0 HB⟩⟩
            ·rw [if_neg c18] at H
             exact absurd H (by simp)
           ·rw [if_neg c17] at H
            exact absurd H (by simp)
          ·replace c15 := Bool.eq_false_iff.mpr c15
           subst c15
           have H1 : (if x9_1 ≥ 0 then (if x9_1 < (l0.length : Int) then (if 0 ≤ x9_1 then (if x9_1 < (x7_1.length : Int) then (printing_window.l0 kj12 l0 a1 a2 (x7_1.set (x9_1 : Int).toNat x8_8) x8_8 (wrap64 (x9_1 + 1))) else (none)) else (none)) else (printing_window.l0 kj12 l0 a1 a2 x7_1 x8_8 (wrap64 (x9_1 + 1)))) else (printing_window.l0 kj12 l0 a1 a2 x7_1 x8_8 (wrap64 (x9_1 + 1)))) = some r := by rw [if_neg (show ¬ (false = true) by decide)] at H; exact H
           clear H
           have H := H1
           clear H1
           by_cases c26 : x9_1 ≥ 0
           ·rw [if_pos c26] at H
            have c26b0 : decide (0 ≤ x9_1) = true := decide_eq_true c26
            clear c26
            by_cases c27 : x9_1 < (l0.length : Int)
            ·rw [if_pos c27] at H
             have c27b0 : decide (x9_1 < (l0.length : Int)) = true := decide_eq_true c27
             clear c27
             by_cases c28 : 0 ≤ x9_1
             ·rw [if_pos c28] at H
              have c28b0 : decide (0 ≤ x9_1) = true := decide_eq_true c28
              clear c28
              by_cases c29 : x9_1 < (x7_1.length : Int)
              ·rw [if_pos c29] at H
               have c29b0 : decide (x9_1 < (x7_1.length : Int)) = true := decide_eq_true c29
               clear c29
               obtain ⟨y126, hy126⟩ : ∃ y_ : List Int, y_ = (x7_1.set (x9_1 : Int).toNat x8_8) := ⟨_, rfl⟩
               replace H : (printing_window.l0 kj12 l0 a1 a2 y126 x8_8 (wrap64 (x9_1 + 1))) = some r := by first | (rw [hy126]; with_reducible exact H) | (have H2_ := (Option.bind_some _ _).symm.trans H; rw [hy126]; with_reducible exact H2_) | (have H2_ := (Option.bind_some _ _).symm.trans H; with_reducible exact H2_) | with_reducible exact H | (rw [hy126]; exact H) | exact H
               have Ny126 := Aside0.mk hy126
               clear hy126
               have H' := Aside0.mk H
               clear H
               have p30 : 0 ≤ (x9_1 : Int) := of_decide_eq_true (by first | (with_reducible assumption) | assumption)
               have q30 : (x9_1 : Int) < ((x7_1.length : Int) : Int) := of_decide_eq_true (by first | (with_reducible assumption) | assumption)
               obtain ⟨go30, co30, eo30, gb30, gl30, cl30, HG30⟩ := Kd.R_form HO_7.out (by omega)
               (first | cases eo30 | (injection eo30 with ea_ en_ ec_; (first | subst ea_ | (injection ea_ with ea_; subst ea_)); subst ec_; clear en_))
               have GB30 := Aside0.mk gb30
               have GG30 := Aside0.mk HG30
               clear gb30 gl30 HG30
               obtain ⟨hx30_0, hf30_0⟩ := Kd.R_celln 0 HO_7.out (x9_1 : Int) p30 q30
               replace p30 := eq_true p30
               replace q30 := eq_true q30
               have HP31 := Kd.R_putg HO_7.out (x9_1 : Int) x8_8
               go_wp2_with (first | ((with_reducible refine gate_store (t := 3) (p := 76) rfl ?_); refine store_event (t := 3) (p := 76) (v := ?vo_w32) (w1 := (wc.setCell ⟨go30, (x9_1 : Int).toNat, none⟩ (.int .i64 x8_8))) ?hg ?ho ?hn ?hr ?_; (case ho => rfl); (case hg => rfl); (case hn => rfl); (case hr => first | (go_simp; done) | (go_simp; rfl)); intro w32 hw; have hg : wc.grownBy w32 (some go30) := (by rw [hw]; exact HP31.2); have hp_ : Kd.R (Kd.int .i64) 3 w32 w.heap.size (fun _ => True) (.slice (some ⟨go30, 0, none⟩) x7_1.length co30) y126 := (by rw [hw, Ny126.out]; exact HP31.1); clear HP31; have n0_ := Aside0.mk (hp_); have n1_ := Aside0.mk ((by rw [hw]; exact below_set (HB.out) GB30.out : Below w.heap.size w w32)); clear HO_7; clear HB; have HO_7 := n0_; have HB := n1_; clear n0_ n1_; clear hg hw hp_))
               go_roundg kj12
               case measure => have := HK1.out; have := HJ8.out; have := HJ12.out; omega
               case rel => exact ⟨(y126), (x8_8), (wrap64 (x9_1 + 1)), (by first | rfl | (simp; done) | (simp [*]; done)), (by first | rfl | (simp; done) | (simp [*]; done)), H', ⟨by have := HK1.out; have := HJ8.out; have := HJ12.out; omega⟩, ⟨rkx HO_7⟩, ⟨hb0 HB⟩⟩
              ·rw [if_neg c29] at H
               exact absurd H (by simp)
             ·rw [if_neg c28] at H
              exact absurd H (by simp)
            ·rw [if_neg c27] at H
             have c27b0 : decide (x9_1 < (l0.length : Int)) = false := decide_eq_false c27
             clear c27
             have H' := Aside0.mk H
             clear H
             go_wp2
             go_roundg kj12
             case measure => have := HK1.out; have := HJ8.out; have := HJ12.out; omega
             case rel => exact ⟨(x7_1), (x8_8), (wrap64 (x9_1 + 1)), (by first | rfl | (simp; done) | (simp [*]; done)), (by first | rfl | (simp; done) | (simp [*]; done)), H', ⟨by have := HK1.out; have := HJ8.out; have := HJ12.out; omega⟩, ⟨rkx HO_7⟩, ⟨hb0 HB⟩⟩
           ·rw [if_neg c26] at H
            have c26b0 : decide (0 ≤ x9_1) = false := decide_eq_false c26
            clear c26
            have H' := Aside0.mk H
            clear H
            go_wp2
            go_roundg kj12
            case measure => have := HK1.out; have := HJ8.out; have := HJ12.out; omega
            case rel => exact ⟨(x7_1), (x8_8), (wrap64 (x9_1 + 1)), (by first | rfl | (simp; done) | (simp [*]; done)), (by first | rfl | (simp; done) | (simp [*]; done)), H', ⟨by have := HK1.out; have := HJ8.out; have := HJ12.out; omega⟩, ⟨rkx HO_7⟩, ⟨hb0 HB⟩⟩
     ·rw [if_neg c8] at H
      have c8b0 : decide (x9_1 < (wrap64 ((l0.length : Int) + a1))) = false := decide_eq_false c8
      clear c8
      obtain rfl := Option.some.inj H
      go_wp2
      go_ret
      exact ⟨_, by first | rfl | (simp [errW_none, errW_some] <;> rfl) | (simp [*, errW_none, errW_some] <;> rfl), by refine rkt ?_; exact HO_7.out, by repeat (first | (with_reducible first | exact HB.out | apply below_alloc | apply pw_below_drewN | apply below_drew1) | exact HB.out)⟩
  ·rw [if_neg c5] at H
   exact absurd H (by simp)
 ·rw [if_neg c4] at H
  exact absurd H (by simp)

end Go.Proofs.Ytbipbbckfmilfaa.PR
