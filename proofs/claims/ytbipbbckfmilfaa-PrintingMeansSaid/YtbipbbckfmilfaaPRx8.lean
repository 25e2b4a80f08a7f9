-- Written by this session's own program (myprint.py).
import Derived.Test.YtbipbbckfmilfaaPRx0
import Derived.Test.YtbipbbckfmilfaaPRx7
namespace Go.Proofs.Ytbipbbckfmilfaa.PR
open Go.RowKit Go.Proofs.YtbipbbckfmilfaaW.PrintWords Go.Proofs.YtbipbbckfmilfaaW.PrintLast Go.Proofs.YtbipbbckfmilfaaW.PrintMore Go.Proofs.Ytbipbbckfmilfaa.XWords Go.Proofs.Ytbipbbckfmilfaa.XShort Go.Proofs.Ytbipbbckfmilfaa.XFn
attribute [local go_sem] max2_int min2_int max_two min_two max_three min_three max_four min_four   -- for this text's walks alone
set_option linter.unusedVariables false
set_option linter.unusedSimpArgs false

/-! ### printing_draw: function 40 -/
mutual
def printing_draw.l0 : Nat → Int → Int → Int → Int → Int → Int → Int → List Bool → Int → Int → List Bool → Option (Int × Int × List Bool × Int)
 | 0, _, _, _, _, _, _, _, _, _, _, _ => none
 | k + 1, x1, x2, x3, x38, x39, x178000, x178001, x178002, x186000, x186001, x186002 => if x39 < x38 then (printing_draw.l1 k x1 x2 x3 x39 x38 x39 (wrap64 (x1 * x178000)) 0 x178000 x178001 x178002 x186000 x186001 x186002) else (some (x186000, x186001, x186002, 0))
def printing_draw.l1 : Nat → Int → Int → Int → Int → Int → Int → Int → Int → Int → Int → List Bool → Int → Int → List Bool → Option (Int × Int × List Bool × Int)
 | 0, _, _, _, _, _, _, _, _, _, _, _, _, _, _ => none
 | k + 1, x1, x2, x3, x12, x38, x39, x45, x46, x178000, x178001, x178002, x186000, x186001, x186002 => if x46 < x45 then (if x2 = 0 then (none) else (if x1 = 0 then (none) else (if 0 ≤ (wrap64 ((wrap64 ((wrap64 (Int.tdiv x12 x2)) * x178000)) + (wrap64 (Int.tdiv x46 x1)))) then (if (wrap64 ((wrap64 ((wrap64 (Int.tdiv x12 x2)) * x178000)) + (wrap64 (Int.tdiv x46 x1)))) < (x178002.length : Int) then (if 0 ≤ (wrap64 ((wrap64 ((wrap64 ((wrap64 (x12 + x3)) * x186000)) + x46)) + x3)) then (if (wrap64 ((wrap64 ((wrap64 ((wrap64 (x12 + x3)) * x186000)) + x46)) + x3)) < (x186002.length : Int) then (printing_draw.l1 k x1 x2 x3 x12 x38 x39 x45 (wrap64 (x46 + 1)) x178000 x178001 x178002 x186000 x186001 (x186002.set ((wrap64 ((wrap64 ((wrap64 ((wrap64 (x12 + x3)) * x186000)) + x46)) + x3)) : Int).toNat (rdOf false x178002 (wrap64 ((wrap64 ((wrap64 (Int.tdiv x12 x2)) * x178000)) + (wrap64 (Int.tdiv x46 x1))))))) else (none)) else (none)) else (none)) else (none)))) else (printing_draw.l0 k x1 x2 x3 x38 (wrap64 (x39 + 1)) x178000 x178001 x178002 x186000 x186001 x186002)
end
def printing_draw.f (k : Nat) (a0_0 : Int) (a0_1 : Int) (l0_2 : List Bool) (a1 : Int) (a2 : Int) (a3 : Int) : Option (Int × Int × List Bool × Int) := (raster_New.f (wrap64 ((wrap64 (a1 * a0_0)) + (wrap64 (2 * a3)))) (wrap64 ((wrap64 (a2 * a0_1)) + (wrap64 (2 * a3))))).bind fun bt179 => (if bt179.2.2.2 = 0 then (printing_draw.l0 k a1 a2 a3 (wrap64 (a2 * a0_1)) 0 a0_0 a0_1 l0_2 bt179.1 bt179.2.1 bt179.2.2.1) else (some (0, 0, ([] : List Bool), 4)))
theorem printing_draw.mono_l : ∀ k, (∀ y0 y1 y2 y3 y4 y5 y6 y7 y8 y9 y10, LeO (printing_draw.l0 k y0 y1 y2 y3 y4 y5 y6 y7 y8 y9 y10) (printing_draw.l0 (k + 1) y0 y1 y2 y3 y4 y5 y6 y7 y8 y9 y10)) ∧ (∀ y0 y1 y2 y3 y4 y5 y6 y7 y8 y9 y10 y11 y12 y13, LeO (printing_draw.l1 k y0 y1 y2 y3 y4 y5 y6 y7 y8 y9 y10 y11 y12 y13) (printing_draw.l1 (k + 1) y0 y1 y2 y3 y4 y5 y6 y7 y8 y9 y10 y11 y12 y13))
 | 0 => ⟨fun _ _ _ _ _ _ _ _ _ _ _ r h => by simp [printing_draw.l0] at h, fun _ _ _ _ _ _ _ _ _ _ _ _ _ _ r h => by simp [printing_draw.l1] at h⟩
 | k + 1 => by
  obtain ⟨ih0, ih1⟩ := printing_draw.mono_l k
  refine ⟨?_, ?_⟩
  ·intro y0 y1 y2 y3 y4 y5 y6 y7 y8 y9 y10
   unfold printing_draw.l0
   repeat' first
   | (with_reducible exact ih0 _ _ _ _ _ _ _ _ _ _ _)
   | (with_reducible exact ih1 _ _ _ _ _ _ _ _ _ _ _ _ _ _)
   | (with_reducible exact LeO.refl _)
   | (with_reducible exact LeO.none _)
   | (with_reducible refine LeO.ite ?_ ?_)
   | (with_reducible refine LeO.bind ?_ (fun _ => ?_))
   | exact ih0 _ _ _ _ _ _ _ _ _ _ _
   | exact ih1 _ _ _ _ _ _ _ _ _ _ _ _ _ _
   | exact LeO.none _
   | refine LeO.ite ?_ ?_
   | refine LeO.bind ?_ (fun _ => ?_)
  ·intro y0 y1 y2 y3 y4 y5 y6 y7 y8 y9 y10 y11 y12 y13
   unfold printing_draw.l1
   repeat' first
   | (with_reducible exact ih0 _ _ _ _ _ _ _ _ _ _ _)
   | (with_reducible exact ih1 _ _ _ _ _ _ _ _ _ _ _ _ _ _)
   | (with_reducible exact LeO.refl _)
   | (with_reducible exact LeO.none _)
   | (with_reducible refine LeO.ite ?_ ?_)
   | (with_reducible refine LeO.bind ?_ (fun _ => ?_))
   | exact ih0 _ _ _ _ _ _ _ _ _ _ _
   | exact ih1 _ _ _ _ _ _ _ _ _ _ _ _ _ _
   | exact LeO.none _
   | refine LeO.ite ?_ ?_
   | refine LeO.bind ?_ (fun _ => ?_)
theorem printing_draw.mono : ∀ a0 a1 a2 a3 a4 a5 k, LeO (printing_draw.f k a0 a1 a2 a3 a4 a5) (printing_draw.f (k + 1) a0 a1 a2 a3 a4 a5) := by
 intro a0 a1 a2 a3 a4 a5 k
 obtain ⟨ih0, ih1⟩ := printing_draw.mono_l k
 unfold printing_draw.f
 repeat' first
   | (with_reducible exact ih0 _ _ _ _ _ _ _ _ _ _ _)
   | (with_reducible exact ih1 _ _ _ _ _ _ _ _ _ _ _ _ _ _)
   | (with_reducible exact LeO.refl _)
   | (with_reducible exact LeO.none _)
   | (with_reducible refine LeO.ite ?_ ?_)
   | (with_reducible refine LeO.bind ?_ (fun _ => ?_))
   | exact ih0 _ _ _ _ _ _ _ _ _ _ _
   | exact ih1 _ _ _ _ _ _ _ _ _ _ _ _ _ _
   | exact LeO.none _
   | refine LeO.ite ?_ ?_
   | refine LeO.bind ?_ (fun _ => ?_)
def printing_draw.T10 : Bool × List (List Nat × List Nat) := (true, [([], []), ([0], [0]), ([], []), ([], []), ([2, 3], [2, 3]), ([], []), ([5], [5]), ([4, 6], [4, 6]), ([], []), ([7, 8], [7, 8]), ([], []), ([9, 10], [9, 10]), ([], []), ([12], [12]), ([], []), ([], []), ([14, 15], [14, 15]), ([], []), ([17], [17]), ([16, 18], [16, 18]), ([], []), ([], []), ([20, 21], [20, 21]), ([19, 22], [19, 22]), ([13, 23], [13, 23]), ([24], [24]), ([1, 11, 0, 1, 2, 3, 4, 5, 6, 7, 8, 9, 10, 11, 12, 13, 14, 15, 16, 17, 18, 19, 20, 21, 22, 23, 24, 25], [1, 11]), ([26, 25, 0, 1, 2, 3, 4, 5, 6, 7, 8, 9, 10, 11, 12, 13, 14, 15, 16, 17, 18, 19, 20, 21, 22, 23, 24, 25], [25, 26])])
def printing_draw.B10 : List Nat := [0, 1, 0, 0, 12, 0, 32, 124, 0, 508, 0, 2044, 0, 4096, 0, 0, 49152, 0, 131072, 507904, 0, 0, 3145728, 8372224, 16773120, 33550336, 67108863, 134217727]
theorem printing_draw.tab10 : rtab .any (opsOf Try.f40 10) = printing_draw.T10 := by kernel_rfl
theorem printing_draw.bits10 : waitsOk printing_draw.T10.2 printing_draw.B10 = true := by kernel_rfl
set_option maxHeartbeats 8000000 in
set_option maxRecDepth 100000 in
theorem printing_draw.calls (k : Nat) (a0_0 : Int) (a0_1 : Int) (A0_2 : Option Addr) (c0_2 : Nat) (l0_2 : List Bool) (a1 : Int) (a2 : Int) (a3 : Int) (r1 : Int) (r2 : Int) (r3 : List Bool) (r4 : Int) (w : World) (hr0_2 : Kd.C Kd.bool w A0_2 l0_2.length l0_2) (hc0_2 : l0_2.length ≤ c0_2) (h : printing_draw.f k a0_0 a0_1 l0_2 a1 a2 a3 = some (r1, r2, r3, r4)) :
  Calls Try.prog 40 #[.agg #[.int .i64 a0_0, .int .i64 a0_1, .slice A0_2 l0_2.length c0_2], .int .i64 a1, .int .i64 a2, .int .i64 a3] w fun e w' => ∃ v2_ : Value, e = .returned (.tuple #[.agg #[.int .i64 r1, .int .i64 r2, v2_], .int .i64 r4]) ∧ Kd.R Kd.bool 4 w' w.heap.size (fun _ => True) v2_ r3 ∧ Below w.heap.size w w' := by
 have hu33 := Try.underlying33
 have HR0_2 := Aside0.mk hr0_2
 have HC0_2 := Aside0.mk hc0_2
 clear hr0_2 hc0_2
 have HB := Aside0.mk (Below.refl w.heap.size w)
 have H : ((raster_New.f (wrap64 ((wrap64 (a1 * a0_0)) + (wrap64 (2 * a3)))) (wrap64 ((wrap64 (a2 * a0_1)) + (wrap64 (2 * a3))))).bind fun bt179 => (if bt179.2.2.2 = 0 then (printing_draw.l0 k a1 a2 a3 (wrap64 (a2 * a0_1)) 0 a0_0 a0_1 l0_2 bt179.1 bt179.2.1 bt179.2.2.1) else (some (0, 0, ([] : List Bool), 4)))) = some (r1, r2, r3, r4) := h
 clear h
 replace H := Option.bind_eq_some_iff.mp H
 obtain ⟨⟨t179, t180, t181, t184⟩, A50, H⟩ := H
 replace H : (if t184 = 0 then (printing_draw.l0 k a1 a2 a3 (wrap64 (a2 * a0_1)) 0 a0_0 a0_1 l0_2 t179 t180 t181) else (some (0, 0, ([] : List Bool), 4))) = some (r1, r2, r3, r4) := H
 have A5 := Aside0.mk A50
 clear A50
 by_cases c6 : t184 = 0
 ·rw [if_pos c6] at H
  have c6b0 : (t184 == 0) = true := beq_iff_eq.mpr c6
  have c6b1 : (t184 != 0) = false := bne_eq_false_iff_eq.mpr c6
  clear c6
  have H' := Aside0.mk H
  clear H
  go_enter Try.func40, Try.ntmps40
  go_wp2_with (first | ((with_reducible refine gate_dst (N := 4) rfl ?_); refine box_event ?hg (N := 4) ?hd (cs := #[.int .i64 a0_0, .int .i64 a0_1, .slice A0_2 l0_2.length c0_2]) (t := 33) ?hr ?_; (case hd => rfl); (case hg => rfl); (case hr => first | (go_simp; done) | (go_simp; rfl)); intro gb177 hg w7 hbox hb; have n0_ := Aside0.mk (below_step (hb0 HB) hb); have n1_ := Aside0.mk (hbox); have n2_ := Aside0.mk ((by rw [hg]; exact (below_size (hb0 HB)) : w.heap.size ≤ gb177)); have n3_ := Aside0.mk ((by rw [hg]; exact (below_size (hb0 HB)) : w.heap.size ≤ gb177)); clear HB; have HB := n0_; have BK177 := n1_; have GW177 := n2_; have GE177 := n3_; clear n0_ n1_ n2_ n3_; clear hb hbox hg) | ((with_reducible refine gate_dst (N := 8) rfl ?_); refine box_event ?hg (N := 8) ?hd (cs := #[.int .i64 0, .int .i64 0, .slice none 0 0]) (t := 33) ?hr ?_; (case hd => rfl); (case hg => rfl); (case hr => first | (go_simp; done) | (go_simp; rfl)); intro gb178 hg w8 hbox hb; have n0_ := Aside0.mk (blk_below (bkx BK177) hb); have n1_ := Aside0.mk (below_step (hb1 HB GE177) hb); have n2_ := Aside0.mk (hbox); have n3_ := Aside0.mk ((by rw [hg]; exact (below_size (hb1 HB GE177)) : w.heap.size ≤ gb178)); have n4_ := Aside0.mk ((by rw [hg]; exact (below_size (hb1 HB GE177)) : w.heap.size ≤ gb178)); have n5_ := Aside0.mk (nel hg BK177 : gb177 ≠ gb178); have n6_ := Aside0.mk (neg hg BK177 : gb178 ≠ gb177); clear BK177; clear HB; have BK177 := n0_; have HB := n1_; have BK178 := n2_; have GW178 := n3_; have GE178 := n4_; have NB177_178 := n5_; have NB178_177 := n6_; clear n0_ n1_ n2_ n3_ n4_ n5_ n6_; clear hb hbox hg; have hnb9 := NB177_178.out; have hnc9 := NB178_177.out; have hcz10_0 : w8.cell? ⟨gb177, 0, none⟩ = some (.int .i64 a0_0) := (blk_cell BK177.out 0).trans rfl; have hcz10_1 : w8.cell? ⟨gb177, 1, none⟩ = some (.int .i64 a0_1) := (blk_cell BK177.out 1).trans rfl; have hcz10_2 : w8.cell? ⟨gb177, 2, none⟩ = some (.slice A0_2 l0_2.length c0_2) := (blk_cell BK177.out 2).trans rfl; have hfz10_0 := blk_frozen BK177.out 0; have hfz10_1 := blk_frozen BK177.out 1; have hfz10_2 := blk_frozen BK177.out 2) | ((with_reducible refine gate_callee (f := 58) rfl ?_); refine goesL_ (some 29) rfl rfl Try.func58 (by kernel_rfl) rfl #[.int .i64 (wrap64 ((wrap64 (a1 * a0_0)) + (wrap64 (2 * a3)))), .int .i64 (wrap64 ((wrap64 (a2 * a0_1)) + (wrap64 (2 * a3))))] rfl mapx ?_; (with_reducible refine (raster_New.calls (wrap64 ((wrap64 (a1 * a0_0)) + (wrap64 (2 * a3)))) (wrap64 ((wrap64 (a2 * a0_1)) + (wrap64 (2 * a3)))) t179 t180 t181 t184 _ A5.out).mono ?_); rintro e w11 ⟨v182, rfl, ho0, hb⟩; refine ⟨_, rfl, ?_⟩; have n0_ := Aside0.mk (Kd.R_lower ho0 (below_size (hb2 HB GE177 GE178))); have n1_ := Aside0.mk (blk_below (bkx BK177) hb); have n2_ := Aside0.mk (blk_below (bkx BK178) hb); have n3_ := Aside0.mk (below_step (hb2 HB GE177 GE178) hb); clear BK177; clear BK178; clear HB; have HO183 := n0_; have BK177 := n1_; have BK178 := n2_; have HB := n3_; clear n0_ n1_ n2_ n3_; (try clear hb); (try clear hb2); (try clear hk); (try clear hi); (try clear ho0)) | ((with_reducible refine gate_dst (N := 10) rfl ?_); refine box_event ?hg (N := 10) ?hd (cs := #[.int .i64 0, .int .i64 0, .slice none 0 0]) (t := 33) ?hr ?_; (case hd => rfl); (case hg => rfl); (case hr => first | (go_simp; done) | (go_simp; rfl)); intro gb185 hg w12 hbox hb; have n0_ := Aside0.mk (Kd.R_below (rkx HO183) hb); have n1_ := Aside0.mk (blk_below (bkx BK177) hb); have n2_ := Aside0.mk (blk_below (bkx BK178) hb); have n3_ := Aside0.mk (below_step (hb2 HB GE177 GE178) hb); have n4_ := Aside0.mk (hbox); have n5_ := Aside0.mk ((by rw [hg]; exact (below_size (hb2 HB GE177 GE178)) : w.heap.size ≤ gb185)); have n6_ := Aside0.mk ((by rw [hg]; exact (below_size (hb2 HB GE177 GE178)) : w.heap.size ≤ gb185)); have n7_ := Aside0.mk (nel hg BK177 : gb177 ≠ gb185); have n8_ := Aside0.mk (neg hg BK177 : gb185 ≠ gb177); have n9_ := Aside0.mk (nel hg BK178 : gb178 ≠ gb185); have n10_ := Aside0.mk (neg hg BK178 : gb185 ≠ gb178); clear HO183; clear BK177; clear BK178; clear HB; have HO183 := n0_; have BK177 := n1_; have BK178 := n2_; have HB := n3_; have BK185 := n4_; have GW185 := n5_; have GE185 := n6_; have NB177_185 := n7_; have NB185_177 := n8_; have NB178_185 := n9_; have NB185_178 := n10_; clear n0_ n1_ n2_ n3_ n4_ n5_ n6_ n7_ n8_ n9_ n10_; clear hb hbox hg; have hnb13 := NB185_177.out; have hnc13 := NB177_185.out; have hnb14 := NB185_178.out; have hnc14 := NB178_185.out; have hcz15_0 : w12.cell? ⟨gb185, 0, none⟩ = some (.int .i64 0) := (blk_cell BK185.out 0).trans rfl; have hcz15_1 : w12.cell? ⟨gb185, 1, none⟩ = some (.int .i64 0) := (blk_cell BK185.out 1).trans rfl; have hcz15_2 : w12.cell? ⟨gb185, 2, none⟩ = some (.slice none 0 0) := (blk_cell BK185.out 2).trans rfl; have hfz15_0 := blk_frozen BK185.out 0; have hfz15_1 := blk_frozen BK185.out 1; have hfz15_2 := blk_frozen BK185.out 2; obtain ⟨Ao16, co16, eo16⟩ := Kd.R_slice HO183.out; subst eo16; have hcz17_0 : w12.cell? ⟨gb177, 0, none⟩ = some (.int .i64 a0_0) := (blk_cell BK177.out 0).trans rfl; have hcz17_1 : w12.cell? ⟨gb177, 1, none⟩ = some (.int .i64 a0_1) := (blk_cell BK177.out 1).trans rfl; have hcz17_2 : w12.cell? ⟨gb177, 2, none⟩ = some (.slice A0_2 l0_2.length c0_2) := (blk_cell BK177.out 2).trans rfl; have hfz17_0 := blk_frozen BK177.out 0; have hfz17_1 := blk_frozen BK177.out 1; have hfz17_2 := blk_frozen BK177.out 2))
  go_loopg [39] k (fun kq v39 w' => ∃ (x39_1 : Int) (x186002_1 : List Bool) (u186002 : Value), v39 = .int .i64 x39_1 ∧ Aside0 (printing_draw.l0 kq a1 a2 a3 (wrap64 (a2 * a0_1)) x39_1 a0_0 a0_1 l0_2 t179 t180 x186002_1 = some (r1, r2, r3, r4)) ∧ Aside0 (kq ≤ k) ∧ Aside0 (Kd.R Kd.bool 4 w' w.heap.size (fun _ => True) u186002 x186002_1) ∧ Aside0 (w'.heap[gb177]? = some (.cells #[.int .i64 a0_0, .int .i64 a0_1, (.slice A0_2 l0_2.length c0_2)] 33 (0, 0))) ∧ Aside0 (w'.heap[gb178]? = some (.cells #[.int .i64 0, .int .i64 0, (.slice none 0 0)] 33 (0, 0))) ∧ Aside0 (w'.heap[gb185]? = some (.cells #[.int .i64 t179, .int .i64 t180, u186002] 33 (0, 0))) ∧ Aside0 (Below w.heap.size w w'))
  case atStart => exact ⟨(0), (t181), (.slice Ao16 t181.length co16), (by first | rfl | (simp; done) | (simp [*]; done)), H', ⟨Nat.le_refl _⟩, ⟨by refine rkt ?_; exact Kd.R_mono (Kd.R_far (p := ⟨gb185, 2, none⟩) (Kd.R_far (p := ⟨gb185, 1, none⟩) (Kd.R_far (p := ⟨gb185, 0, none⟩) (Kd.R_types HO183.out BK185.out (by decide)) (fun _ hk => hk.2) (.int .i64 t179)) (fun _ hk => hk.2) (.int .i64 t180)) (fun _ hk => hk.2) (.slice Ao16 t181.length co16)) (fun _ hk => trivial)⟩, ⟨bky BK177 NB177_185⟩, ⟨bky BK178 NB178_185⟩, ⟨by refine bkt ?_; refine blk_put (cs := #[.int .i64 t179, .int .i64 t180, .slice none 0 0]) ?_ 2 _ rfl; refine bkt ?_; refine blk_put (cs := #[.int .i64 t179, .int .i64 0, .slice none 0 0]) ?_ 1 _ rfl; refine bkt ?_; refine blk_put (cs := #[.int .i64 0, .int .i64 0, .slice none 0 0]) ?_ 0 _ rfl; refine bkt ?_; exact BK185.out⟩, ⟨hb3 HB GE177 GE178 GE185⟩⟩
  case round =>
   clear H'
   (try clear c1); (try clear p2); (try clear c4); (try clear c5); (try clear c6); (try clear c6b0); (try clear c6b1); (try clear p6); (try clear c9); (try clear c13); (try clear c14); (try clear hcz10_0); (try clear hcz10_1); (try clear hcz10_2); (try clear hcz15_0); (try clear hcz15_1); (try clear hcz15_2); (try clear hcz17_0); (try clear hcz17_1); (try clear hcz17_2); (try clear hfz10_0); (try clear hfz10_1); (try clear hfz10_2); (try clear hfz15_0); (try clear hfz15_1); (try clear hfz15_2); (try clear hfz17_0); (try clear hfz17_1); (try clear hfz17_2)
   obtain ⟨x39_1, x186002_1, u186002, rfl, HA, HK1, HO_186002, BK177, BK178, BK185, HB⟩ := hrel
   cases gk with
   | zero => exact absurd HA.out (by simp [printing_draw.l0])
   | succ k1 =>
    have H := HA.out
    clear HA
    simp only [printing_draw.l0] at H
    by_cases c18 : x39_1 < (wrap64 (a2 * a0_1))
    ·rw [if_pos c18] at H
     have c18b0 : decide (x39_1 < (wrap64 (a2 * a0_1))) = true := decide_eq_true c18
     clear c18
     have H' := Aside0.mk H
     clear H
     have hnb19 := NB177_178.out
     have hnc19 := NB178_177.out
     have hnb20 := NB177_185.out
     have hnc20 := NB185_177.out
     have hcz21_0 : wr.cell? ⟨gb177, 0, none⟩ = some (.int .i64 a0_0) := (blk_cell BK177.out 0).trans rfl
     have hcz21_1 : wr.cell? ⟨gb177, 1, none⟩ = some (.int .i64 a0_1) := (blk_cell BK177.out 1).trans rfl
     have hcz21_2 : wr.cell? ⟨gb177, 2, none⟩ = some (.slice A0_2 l0_2.length c0_2) := (blk_cell BK177.out 2).trans rfl
     have hfz21_0 := blk_frozen BK177.out 0
     have hfz21_1 := blk_frozen BK177.out 1
     have hfz21_2 := blk_frozen BK177.out 2
     go_wp2
     go_loopg [46] k1 (fun kq v46 w' => ∃ (x46_2 : Int) (x186002_2 : List Bool) (u186002 : Value), v46 = .int .i64 x46_2 ∧ Aside0 (printing_draw.l1 kq a1 a2 a3 x39_1 (wrap64 (a2 * a0_1)) x39_1 (wrap64 (a1 * a0_0)) x46_2 a0_0 a0_1 l0_2 t179 t180 x186002_2 = some (r1, r2, r3, r4)) ∧ Aside0 (kq ≤ k1) ∧ Aside0 (Kd.R Kd.bool 4 w' w.heap.size (fun _ => True) u186002 x186002_2) ∧ Aside0 (w'.heap[gb177]? = some (.cells #[.int .i64 a0_0, .int .i64 a0_1, (.slice A0_2 l0_2.length c0_2)] 33 (0, 0))) ∧ Aside0 (w'.heap[gb178]? = some (.cells #[.int .i64 0, .int .i64 0, (.slice none 0 0)] 33 (0, 0))) ∧ Aside0 (w'.heap[gb185]? = some (.cells #[.int .i64 t179, .int .i64 t180, u186002] 33 (0, 0))) ∧ Aside0 (Below w.heap.size w w'))
     case atStart => exact ⟨(0), (x186002_1), (u186002), (by first | rfl | (simp; done) | (simp [*]; done)), H', ⟨Nat.le_refl _⟩, ⟨rkx HO_186002⟩, ⟨bkx BK177⟩, ⟨bkx BK178⟩, ⟨bkx BK185⟩, ⟨hb3 HB GE177 GE178 GE185⟩⟩
     case round =>
      clear H'
      (try clear c1); (try clear c2); (try clear p2); (try clear c4); (try clear c5); (try clear c6); (try clear c6b0); (try clear c6b1); (try clear p6); (try clear c9); (try clear c13); (try clear c14); (try clear c18); (try clear c18b0); (try clear c19); (try clear c20); (try clear hcz10_0); (try clear hcz10_1); (try clear hcz10_2); (try clear hcz15_0); (try clear hcz15_1); (try clear hcz15_2); (try clear hcz17_0); (try clear hcz17_1); (try clear hcz17_2); (try clear hcz21_0); (try clear hcz21_1); (try clear hcz21_2); (try clear hfz10_0); (try clear hfz10_1); (try clear hfz10_2); (try clear hfz15_0); (try clear hfz15_1); (try clear hfz15_2); (try clear hfz17_0); (try clear hfz17_1); (try clear hfz17_2); (try clear hfz21_0); (try clear hfz21_1); (try clear hfz21_2); (try clear p2); (try clear p6)
      obtain ⟨x46_2, x186002_2, u186002, rfl, HA, HK2, HO_186002, BK177, BK178, BK185, HB⟩ := hrel
      cases gk with
      | zero => exact absurd HA.out (by simp [printing_draw.l1])
      | succ k2 =>
       have H := HA.out
       clear HA
       simp only [printing_draw.l1] at H
       by_cases c22 : x46_2 < (wrap64 (a1 * a0_0))
       ·rw [if_pos c22] at H
        have c22b0 : decide (x46_2 < (wrap64 (a1 * a0_0))) = true := decide_eq_true c22
        clear c22
        by_cases c23 : a2 = 0
        ·rw [if_pos c23] at H
         exact absurd H (by simp)
        ·rw [if_neg c23] at H
         have c23b0 : (a2 == 0) = false := beq_eq_false_iff_ne.mpr c23
         have c23b1 : (a2 != 0) = true := bne_iff_ne.mpr c23
         by_cases c24 : a1 = 0
         ·rw [if_pos c24] at H
          exact absurd H (by simp)
         ·rw [if_neg c24] at H
          have c24b0 : (a1 == 0) = false := beq_eq_false_iff_ne.mpr c24
          have c24b1 : (a1 != 0) = true := bne_iff_ne.mpr c24
          obtain ⟨ji25, hji25⟩ : ∃ j_ : Int, (wrap64 ((wrap64 ((wrap64 (Int.tdiv x39_1 a2)) * a0_0)) + (wrap64 (Int.tdiv x46_2 a1)))) = j_ := ⟨_, rfl⟩
          replace H : (if 0 ≤ (ji25) then (if (ji25) < (l0_2.length : Int) then (if 0 ≤ (wrap64 ((wrap64 ((wrap64 ((wrap64 (x39_1 + a3)) * t179)) + x46_2)) + a3)) then (if (wrap64 ((wrap64 ((wrap64 ((wrap64 (x39_1 + a3)) * t179)) + x46_2)) + a3)) < (x186002_2.length : Int) then (printing_draw.l1 k2 a1 a2 a3 x39_1 (wrap64 (a2 * a0_1)) x39_1 (wrap64 (a1 * a0_0)) (wrap64 (x46_2 + 1)) a0_0 a0_1 l0_2 t179 t180 (x186002_2.set ((wrap64 ((wrap64 ((wrap64 ((wrap64 (x39_1 + a3)) * t179)) + x46_2)) + a3)) : Int).toNat (rdOf false l0_2 (ji25)))) else (none)) else (none)) else (none)) else (none)) = some (r1, r2, r3, r4) := by first | (rw [hji25] at H; exact H) | (simp only [hji25] at H ⊢; exact H)
          have hji25w : (IntKind.i64.wrap ((wrap64 ((wrap64 (Int.tdiv x39_1 a2)) * a0_0)) + (wrap64 (Int.tdiv x46_2 a1)))) = ji25 := (i64_w _).trans hji25
          by_cases c26 : 0 ≤ (ji25)
          ·rw [if_pos c26] at H
           have c26b0 : decide (0 ≤ (ji25)) = true := decide_eq_true c26
           clear c26
           by_cases c27 : (ji25) < (l0_2.length : Int)
           ·rw [if_pos c27] at H
            have c27b0 : decide ((ji25) < (l0_2.length : Int)) = true := decide_eq_true c27
            clear c27
            obtain ⟨ji28, hji28⟩ : ∃ j_ : Int, (wrap64 ((wrap64 ((wrap64 ((wrap64 (x39_1 + a3)) * t179)) + x46_2)) + a3)) = j_ := ⟨_, rfl⟩
            replace H : (if 0 ≤ (ji28) then (if (ji28) < (x186002_2.length : Int) then (printing_draw.l1 k2 a1 a2 a3 x39_1 (wrap64 (a2 * a0_1)) x39_1 (wrap64 (a1 * a0_0)) (wrap64 (x46_2 + 1)) a0_0 a0_1 l0_2 t179 t180 (x186002_2.set ((ji28) : Int).toNat (rdOf false l0_2 (ji25)))) else (none)) else (none)) = some (r1, r2, r3, r4) := by first | (rw [hji28] at H; exact H) | (simp only [hji28] at H ⊢; exact H)
            have hji28w : (IntKind.i64.wrap ((wrap64 ((wrap64 ((wrap64 (x39_1 + a3)) * t179)) + x46_2)) + a3)) = ji28 := (i64_w _).trans hji28
            by_cases c29 : 0 ≤ (ji28)
            ·rw [if_pos c29] at H
             have c29b0 : decide (0 ≤ (ji28)) = true := decide_eq_true c29
             clear c29
             by_cases c30 : (ji28) < (x186002_2.length : Int)
             ·rw [if_pos c30] at H
              have c30b0 : decide ((ji28) < (x186002_2.length : Int)) = true := decide_eq_true c30
              clear c30
              obtain ⟨y187, hy187⟩ : ∃ y_ : List Bool, y_ = (x186002_2.set ((ji28) : Int).toNat (rdOf false l0_2 (ji25))) := ⟨_, rfl⟩
              replace H : (printing_draw.l1 k2 a1 a2 a3 x39_1 (wrap64 (a2 * a0_1)) x39_1 (wrap64 (a1 * a0_0)) (wrap64 (x46_2 + 1)) a0_0 a0_1 l0_2 t179 t180 y187) = some (r1, r2, r3, r4) := by first | (rw [hy187]; with_reducible exact H) | (have H2_ := (Option.bind_some _ _).symm.trans H; rw [hy187]; with_reducible exact H2_) | (have H2_ := (Option.bind_some _ _).symm.trans H; with_reducible exact H2_) | with_reducible exact H | (rw [hy187]; exact H) | exact H
              have Ny187 := Aside0.mk hy187
              clear hy187
              have H' := Aside0.mk H
              clear H
              try go_wp2
              have n0_ := Aside0.mk (Kd.R_drew HO_186002.out)
              have n1_ := Aside0.mk (blk_drew BK177.out)
              have n2_ := Aside0.mk (blk_drew BK178.out)
              have n3_ := Aside0.mk (blk_drew BK185.out)
              have n4_ := Aside0.mk (below_drew1 HB.out)
              clear HO_186002
              clear BK177
              clear BK178
              clear BK185
              clear HB
              have HO_186002 := n0_
              have BK177 := n1_
              have BK178 := n2_
              have BK185 := n3_
              have HB := n4_
              clear n0_ n1_ n2_ n3_ n4_
              have p186 : 0 ≤ ((ji25) : Int) := of_decide_eq_true (by first | (with_reducible assumption) | assumption)
              have q186 : (ji25) < (l0_2.length : Int) := of_decide_eq_true (by first | (with_reducible assumption) | assumption)
              obtain ⟨ad186, e186, hx186_0⟩ := Kd.at_bool HR0_2.out (ji25) p186 q186
              have hw186_0 := hx186_0
              cases e186
              replace hx186_0 := (HB.out.cell (World.block_lt_of_cell? w _ hx186_0)).trans hx186_0
              replace p186 := eq_true p186
              replace q186 := eq_true q186
              have p31 : 0 ≤ ((ji28) : Int) := of_decide_eq_true (by first | (with_reducible assumption) | assumption)
              have q31 : ((ji28) : Int) < ((x186002_2.length : Int) : Int) := of_decide_eq_true (by first | (with_reducible assumption) | assumption)
              obtain ⟨go31, co31, eo31, gb31, gl31, cl31, HG31⟩ := Kd.R_form HO_186002.out (by omega)
              (first | cases eo31 | (injection eo31 with ea_ en_ ec_; (first | subst ea_ | (injection ea_ with ea_; subst ea_)); subst ec_; clear en_))
              have GB31 := Aside0.mk gb31
              have GG31 := Aside0.mk HG31
              clear gb31 gl31 HG31
              obtain ⟨hx31_0, hf31_0⟩ := Kd.R_celln false HO_186002.out ((ji28) : Int) p31 q31
              replace p31 := eq_true p31
              replace q31 := eq_true q31
              have HP33 := Kd.R_putn HO_186002.out ((ji28) : Int) (rdOf false l0_2 (ji25))
              rw [← Ny187.out] at HP33
              have HQ33 := Aside0.mk HP33
              clear HP33
              refine start_ (n := 28) (S := fun w' => w'.cell? ⟨gb185, 0, none⟩ = some (.int .i64 t179) ∧ w'.cell? ⟨gb185, 1, none⟩ = some (.int .i64 t180) ∧ w'.cell? ⟨gb185, 2, none⟩ = some (.slice (some ⟨go31, 0, none⟩) x186002_2.length co31) ∧ w'.cell? ⟨gb177, 0, none⟩ = some (.int .i64 a0_0) ∧ w'.cell? ⟨gb177, 1, none⟩ = some (.int .i64 a0_1) ∧ w'.cell? ⟨gb177, 2, none⟩ = some (.slice (some ad186) l0_2.length c0_2) ∧ w'.cell? (ad186.add ((ji25)).toNat) = some (.bool (rdOf false l0_2 (ji25)))) (ds := [27]) (bA 28 0) (by kernel_rfl) rfl rfl ⟨(blk_cell BK185.out 0).trans rfl, (blk_cell BK185.out 1).trans rfl, (blk_cell BK185.out 2).trans rfl, (blk_cell BK177.out 0).trans rfl, (blk_cell BK177.out 1).trans rfl, (blk_cell BK177.out 2).trans rfl, ((HB.out.cell (World.block_lt_of_cell? w _ hw186_0)).trans hw186_0)⟩ (fun hHeld => ?_); refine with_tabW printing_draw.tab10 printing_draw.bits10 (fun HT_ HW_ => ?_)
              generalize wr.drew = w32 at HO_186002 BK177 BK178 BK185 HB GG31 HQ33 hf31_0 hx186_0 hx31_0 hHeld ⊢
              refine pt HT_ 0 49 ?_
              refine pt HT_ 2 51 ?_
              refine pt HT_ 3 52 ?_
              refine pt HT_ 4 53 ?_
              refine pt HT_ 5 54 ?_
              refine pt HT_ 8 57 ?_
              refine pt HT_ 10 59 ?_
              refine pt HT_ 12 61 ?_
              refine pt HT_ 14 63 ?_
              refine pt HT_ 15 64 ?_
              refine pt HT_ 16 65 ?_
              refine pt HT_ 17 66 ?_
              refine pt HT_ 20 69 ?_
              refine pt HT_ 21 70 ?_
              refine pt HT_ 22 71 ?_
              refine tk HT_ HW_ hHeld 1 50 ?_
              refine tk HT_ HW_ hHeld 6 55 ?_
              refine pt HT_ 7 56 ?_
              refine pt HT_ 9 58 ?_
              refine pt HT_ 11 60 ?_
              refine tk HT_ HW_ hHeld 13 62 ?_
              refine tk HT_ HW_ hHeld 18 67 ?_
              refine pt HT_ 19 68 ?_
              refine pt HT_ 23 72 ?_
              refine pt HT_ 24 73 ?_
              refine tk HT_ HW_ hHeld 25 74 ?_
              refine pt HT_ 26 75 ?_
              refine last_ (i := 27) (N := none) (bA 28 268435455) rfl rfl (one_of HT_.out (by kernel_rfl)) (by decide) (fun K hK => ?_)
              refine skip_ (w1 := ?_) (by rfl) rfl ?_ ?_
              rotate_left
              ·go_simp
               rfl
              refine hK.out _ _ ?_
              clear hK K
              refine done_ (done_of HT_.out (by kernel_rfl)) ?_
              try go_wp2
              go_roundg k2
              case measure => have := HK1.out; have := HK2.out; omega
              case rel => exact ⟨(wrap64 (x46_2 + 1)), (y187), (.slice (some ⟨go31, 0, none⟩) x186002_2.length co31), (by first | rfl | (simp; done) | (simp [*]; done)), H', ⟨by have := HK1.out; have := HK2.out; omega⟩, ⟨rkx HQ33⟩, ⟨by refine bkt ?_; refine blk_far ?_ (by have h_ := Kd.R_ne HO_186002.out BK177.out (by decide); intro e_; exact h_ (by rw [e_]; rfl)) _; refine bkt ?_; exact BK177.out⟩, ⟨by refine bkt ?_; refine blk_far ?_ (by have h_ := Kd.R_ne HO_186002.out BK178.out (by decide); intro e_; exact h_ (by rw [e_]; rfl)) _; refine bkt ?_; exact BK178.out⟩, ⟨by refine bkt ?_; refine blk_far ?_ (by have h_ := Kd.R_ne HO_186002.out BK185.out (by decide); intro e_; exact h_ (by rw [e_]; rfl)) _; refine bkt ?_; exact BK185.out⟩, ⟨hb4 HB GB31 GE177 GE178 GE185⟩⟩
             ·rw [if_neg c30] at H
              exact absurd H (by simp)
            ·rw [if_neg c29] at H
             exact absurd H (by simp)
           ·rw [if_neg c27] at H
            exact absurd H (by simp)
          ·rw [if_neg c26] at H
           exact absurd H (by simp)
       ·rw [if_neg c22] at H
        have c22b0 : decide (x46_2 < (wrap64 (a1 * a0_0))) = false := decide_eq_false c22
        clear c22
        have H' := Aside0.mk H
        clear H
        go_wp2
        go_roundg k2
        case measure => have := HK1.out; have := HK2.out; omega
        case rel => exact ⟨(wrap64 (x39_1 + 1)), (x186002_2), (u186002), (by first | rfl | (simp; done) | (simp [*]; done)), H', ⟨by have := HK1.out; have := HK2.out; omega⟩, ⟨rkx HO_186002⟩, ⟨bkx BK177⟩, ⟨bkx BK178⟩, ⟨bkx BK185⟩, ⟨hb3 HB GE177 GE178 GE185⟩⟩
    ·rw [if_neg c18] at H
     have c18b0 : decide (x39_1 < (wrap64 (a2 * a0_1))) = false := decide_eq_false c18
     clear c18
     simp only [Option.some.injEq, Prod.mk.injEq] at H
     obtain ⟨rfl, rfl, rfl, rfl⟩ := H
     have hnb34 := NB185_177.out
     have hnc34 := NB177_185.out
     have hnb35 := NB185_178.out
     have hnc35 := NB178_185.out
     have hcz36_0 : wr.cell? ⟨gb185, 0, none⟩ = some (.int .i64 t179) := (blk_cell BK185.out 0).trans rfl
     have hcz36_1 : wr.cell? ⟨gb185, 1, none⟩ = some (.int .i64 t180) := (blk_cell BK185.out 1).trans rfl
     have hcz36_2 : wr.cell? ⟨gb185, 2, none⟩ = some (u186002) := (blk_cell BK185.out 2).trans rfl
     have hfz36_0 := blk_frozen BK185.out 0
     have hfz36_1 := blk_frozen BK185.out 1
     have hfz36_2 := blk_frozen BK185.out 2
     have hnb37 := NB178_177.out
     have hnc37 := NB177_178.out
     have hcz38_0 : wr.cell? ⟨gb178, 0, none⟩ = some (.int .i64 0) := (blk_cell BK178.out 0).trans rfl
     have hcz38_1 : wr.cell? ⟨gb178, 1, none⟩ = some (.int .i64 0) := (blk_cell BK178.out 1).trans rfl
     have hcz38_2 : wr.cell? ⟨gb178, 2, none⟩ = some (.slice none 0 0) := (blk_cell BK178.out 2).trans rfl
     have hfz38_0 := blk_frozen BK178.out 0
     have hfz38_1 := blk_frozen BK178.out 1
     have hfz38_2 := blk_frozen BK178.out 2
     obtain ⟨Ao39, co39, eo39⟩ := Kd.R_slice HO_186002.out
     subst eo39
     go_wp2
     refine bodyPost_ret (results_ct rfl _ _ gb178 33 #[.int .i64 t179, .int .i64 t180, .slice Ao39 x186002_1.length co39] (0, 0) _ rfl (by refine bkt ?_; refine blk_put (cs := #[.int .i64 t179, .int .i64 t180, .slice none 0 0]) ?_ 2 _ rfl; refine bkt ?_; refine blk_put (cs := #[.int .i64 t179, .int .i64 0, .slice none 0 0]) ?_ 1 _ rfl; refine bkt ?_; refine blk_put (cs := #[.int .i64 0, .int .i64 0, .slice none 0 0]) ?_ 0 _ rfl; refine bkt ?_; exact BK178.out) Try.underlying33 rfl (by kernel_rfl)) rfl ?_
     exact ⟨_, by first | rfl | (simp [errW_none, errW_some] <;> rfl) | (simp [*, errW_none, errW_some] <;> rfl), by refine rkt ?_; exact Kd.R_mono (Kd.R_far (p := ⟨gb178, 2, none⟩) (Kd.R_far (p := ⟨gb178, 1, none⟩) (Kd.R_far (p := ⟨gb178, 0, none⟩) (Kd.R_types HO_186002.out BK178.out (by decide)) (fun _ hk => hk.2) (.int .i64 t179)) (fun _ hk => hk.2) (.int .i64 t180)) (fun _ hk => hk.2) (.slice Ao39 x186002_1.length co39)) (fun _ hk => trivial), by repeat (first | (with_reducible first | exact HB.out | apply below_alloc | apply pw_below_drewN | apply below_drew1 | refine below_set ?_ GE177.out | refine below_set ?_ GE178.out | refine below_set ?_ GE185.out) | exact HB.out)⟩
 ·rw [if_neg c6] at H
  have c6b0 : (t184 == 0) = false := beq_eq_false_iff_ne.mpr c6
  have c6b1 : (t184 != 0) = true := bne_iff_ne.mpr c6
  simp only [Option.some.injEq, Prod.mk.injEq] at H
  obtain ⟨rfl, rfl, rfl, rfl⟩ := H
  go_enter Try.func40, Try.ntmps40
  go_wp2_with (first | ((with_reducible refine gate_dst (N := 4) rfl ?_); refine box_event ?hg (N := 4) ?hd (cs := #[.int .i64 a0_0, .int .i64 a0_1, .slice A0_2 l0_2.length c0_2]) (t := 33) ?hr ?_; (case hd => rfl); (case hg => rfl); (case hr => first | (go_simp; done) | (go_simp; rfl)); intro gb177 hg w40 hbox hb; have n0_ := Aside0.mk (below_step (hb0 HB) hb); have n1_ := Aside0.mk (hbox); have n2_ := Aside0.mk ((by rw [hg]; exact (below_size (hb0 HB)) : w.heap.size ≤ gb177)); have n3_ := Aside0.mk ((by rw [hg]; exact (below_size (hb0 HB)) : w.heap.size ≤ gb177)); clear HB; have HB := n0_; have BK177 := n1_; have GW177 := n2_; have GE177 := n3_; clear n0_ n1_ n2_ n3_; clear hb hbox hg) | ((with_reducible refine gate_dst (N := 8) rfl ?_); refine box_event ?hg (N := 8) ?hd (cs := #[.int .i64 0, .int .i64 0, .slice none 0 0]) (t := 33) ?hr ?_; (case hd => rfl); (case hg => rfl); (case hr => first | (go_simp; done) | (go_simp; rfl)); intro gb178 hg w41 hbox hb; have n0_ := Aside0.mk (blk_below (bkx BK177) hb); have n1_ := Aside0.mk (below_step (hb1 HB GE177) hb); have n2_ := Aside0.mk (hbox); have n3_ := Aside0.mk ((by rw [hg]; exact (below_size (hb1 HB GE177)) : w.heap.size ≤ gb178)); have n4_ := Aside0.mk ((by rw [hg]; exact (below_size (hb1 HB GE177)) : w.heap.size ≤ gb178)); have n5_ := Aside0.mk (nel hg BK177 : gb177 ≠ gb178); have n6_ := Aside0.mk (neg hg BK177 : gb178 ≠ gb177); clear BK177; clear HB; have BK177 := n0_; have HB := n1_; have BK178 := n2_; have GW178 := n3_; have GE178 := n4_; have NB177_178 := n5_; have NB178_177 := n6_; clear n0_ n1_ n2_ n3_ n4_ n5_ n6_; clear hb hbox hg; have hnb42 := NB177_178.out; have hnc42 := NB178_177.out; have hcz43_0 : w41.cell? ⟨gb177, 0, none⟩ = some (.int .i64 a0_0) := (blk_cell BK177.out 0).trans rfl; have hcz43_1 : w41.cell? ⟨gb177, 1, none⟩ = some (.int .i64 a0_1) := (blk_cell BK177.out 1).trans rfl; have hcz43_2 : w41.cell? ⟨gb177, 2, none⟩ = some (.slice A0_2 l0_2.length c0_2) := (blk_cell BK177.out 2).trans rfl; have hfz43_0 := blk_frozen BK177.out 0; have hfz43_1 := blk_frozen BK177.out 1; have hfz43_2 := blk_frozen BK177.out 2) | ((with_reducible refine gate_callee (f := 58) rfl ?_); refine goesL_ (some 29) rfl rfl Try.func58 (by kernel_rfl) rfl #[.int .i64 (wrap64 ((wrap64 (a1 * a0_0)) + (wrap64 (2 * a3)))), .int .i64 (wrap64 ((wrap64 (a2 * a0_1)) + (wrap64 (2 * a3))))] rfl mapx ?_; (with_reducible refine (raster_New.calls (wrap64 ((wrap64 (a1 * a0_0)) + (wrap64 (2 * a3)))) (wrap64 ((wrap64 (a2 * a0_1)) + (wrap64 (2 * a3)))) t179 t180 t181 t184 _ A5.out).mono ?_); rintro e w44 ⟨v182, rfl, ho0, hb⟩; refine ⟨_, rfl, ?_⟩; have n0_ := Aside0.mk (Kd.R_lower ho0 (below_size (hb2 HB GE177 GE178))); have n1_ := Aside0.mk (blk_below (bkx BK177) hb); have n2_ := Aside0.mk (blk_below (bkx BK178) hb); have n3_ := Aside0.mk (below_step (hb2 HB GE177 GE178) hb); clear BK177; clear BK178; clear HB; have HO183 := n0_; have BK177 := n1_; have BK178 := n2_; have HB := n3_; clear n0_ n1_ n2_ n3_; (try clear hb); (try clear hb2); (try clear hk); (try clear hi); (try clear ho0)) | ((with_reducible refine gate_dst (N := 10) rfl ?_); refine box_event ?hg (N := 10) ?hd (cs := #[.int .i64 0, .int .i64 0, .slice none 0 0]) (t := 33) ?hr ?_; (case hd => rfl); (case hg => rfl); (case hr => first | (go_simp; done) | (go_simp; rfl)); intro gb185 hg w45 hbox hb; have n0_ := Aside0.mk (Kd.R_below (rkx HO183) hb); have n1_ := Aside0.mk (blk_below (bkx BK177) hb); have n2_ := Aside0.mk (blk_below (bkx BK178) hb); have n3_ := Aside0.mk (below_step (hb2 HB GE177 GE178) hb); have n4_ := Aside0.mk (hbox); have n5_ := Aside0.mk ((by rw [hg]; exact (below_size (hb2 HB GE177 GE178)) : w.heap.size ≤ gb185)); have n6_ := Aside0.mk ((by rw [hg]; exact (below_size (hb2 HB GE177 GE178)) : w.heap.size ≤ gb185)); have n7_ := Aside0.mk (nel hg BK177 : gb177 ≠ gb185); have n8_ := Aside0.mk (neg hg BK177 : gb185 ≠ gb177); have n9_ := Aside0.mk (nel hg BK178 : gb178 ≠ gb185); have n10_ := Aside0.mk (neg hg BK178 : gb185 ≠ gb178); clear HO183; clear BK177; clear BK178; clear HB; have HO183 := n0_; have BK177 := n1_; have BK178 := n2_; have HB := n3_; have BK185 := n4_; have GW185 := n5_; have GE185 := n6_; have NB177_185 := n7_; have NB185_177 := n8_; have NB178_185 := n9_; have NB185_178 := n10_; clear n0_ n1_ n2_ n3_ n4_ n5_ n6_ n7_ n8_ n9_ n10_; clear hb hbox hg; have hnb46 := NB185_177.out; have hnc46 := NB177_185.out; have hnb47 := NB185_178.out; have hnc47 := NB178_185.out; have hcz48_0 : w45.cell? ⟨gb185, 0, none⟩ = some (.int .i64 0) := (blk_cell BK185.out 0).trans rfl; have hcz48_1 : w45.cell? ⟨gb185, 1, none⟩ = some (.int .i64 0) := (blk_cell BK185.out 1).trans rfl; have hcz48_2 : w45.cell? ⟨gb185, 2, none⟩ = some (.slice none 0 0) := (blk_cell BK185.out 2).trans rfl; have hfz48_0 := blk_frozen BK185.out 0; have hfz48_1 := blk_frozen BK185.out 1; have hfz48_2 := blk_frozen BK185.out 2; obtain ⟨Ao49, co49, eo49⟩ := Kd.R_slice HO183.out; subst eo49; have hcz50_0 : w45.cell? ⟨gb178, 0, none⟩ = some (.int .i64 0) := (blk_cell BK178.out 0).trans rfl; have hcz50_1 : w45.cell? ⟨gb178, 1, none⟩ = some (.int .i64 0) := (blk_cell BK178.out 1).trans rfl; have hcz50_2 : w45.cell? ⟨gb178, 2, none⟩ = some (.slice none 0 0) := (blk_cell BK178.out 2).trans rfl; have hfz50_0 := blk_frozen BK178.out 0; have hfz50_1 := blk_frozen BK178.out 1; have hfz50_2 := blk_frozen BK178.out 2))
  refine bodyPost_ret (results_ct rfl _ _ gb178 33 #[.int .i64 0, .int .i64 0, .slice none 0 0] (0, 0) _ rfl (by refine bkt ?_; refine blk_put (cs := #[.int .i64 0, .int .i64 0, .slice none 0 0]) ?_ 2 _ rfl; refine bkt ?_; refine blk_put (cs := #[.int .i64 0, .int .i64 0, .slice none 0 0]) ?_ 1 _ rfl; refine bkt ?_; refine blk_put (cs := #[.int .i64 0, .int .i64 0, .slice none 0 0]) ?_ 0 _ rfl; refine bkt ?_; refine blk_far ?_ NB178_185.out _; refine bkt ?_; refine blk_far ?_ NB178_185.out _; refine bkt ?_; refine blk_far ?_ NB178_185.out _; refine bkt ?_; exact BK178.out) Try.underlying33 rfl (by kernel_rfl)) rfl ?_
  exact ⟨_, by first | rfl | (simp [errW_none, errW_some] <;> rfl) | (simp [*, errW_none, errW_some] <;> rfl), by first | exact Kd.R_nil _ _ _ _ _ | exact Kd.N_nil _ _ _ _ _ | exact Kd.V_nil _ _ _ _ _ | exact Kd.Q_nil _ _ _ _ _ | exact Kd.S_nil _ _ _ _ _, by repeat (first | (with_reducible first | exact HB.out | apply below_alloc | apply pw_below_drewN | apply below_drew1 | refine below_set ?_ GE177.out | refine below_set ?_ GE178.out | refine below_set ?_ GE185.out) | exact HB.out)⟩

end Go.Proofs.Ytbipbbckfmilfaa.PR
