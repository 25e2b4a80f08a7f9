-- Written by this session's own program (myprint.py).
import Derived.Test.YtbipbbckfmilfaaPRx0
import Derived.Test.YtbipbbckfmilfaaPRx6
import Derived.Test.YtbipbbckfmilfaaPRx12
namespace Go.Proofs.Ytbipbbckfmilfaa.PR
open Go.RowKit Go.Proofs.YtbipbbckfmilfaaW.PrintWords Go.Proofs.YtbipbbckfmilfaaW.PrintLast Go.Proofs.YtbipbbckfmilfaaW.PrintMore Go.Proofs.Ytbipbbckfmilfaa.XWords Go.Proofs.Ytbipbbckfmilfaa.XShort Go.Proofs.Ytbipbbckfmilfaa.XFn
attribute [local go_sem] max2_int min2_int max_two min_two max_three min_three max_four min_four   -- for this text's walks alone
set_option linter.unusedVariables false
set_option linter.unusedSimpArgs false

/-! ### raster_Turn: function 16 -/
def raster_Turn.l0 : Nat → Int → Int → Int → Int → List Bool → Option (Int × Int × List Bool × Int)
  | 0, _, _, _, _, _ => none
  | k + 1, x17, x18, x285000, x285001, x285002 => if x18 < x17 then ((raster_turned_bool.f k x285002 x285000 x285001).bind fun t285 => (raster_Turn.l0 k x17 (wrap64 (x18 + 1)) x285001 x285000 t285)) else (some (x285000, x285001, x285002, 0))
def raster_Turn.f (k : Nat) (a0_0 : Int) (a0_1 : Int) (l0_2 : List Bool) (a1 : Int) : Option (Int × Int × List Bool × Int) := (raster_Check.f a0_0 a0_1 l0_2).bind fun t278 => (if t278 = 0 then ((raster_clone.f a0_0 a0_1 l0_2).bind fun bt279 => (raster_Turn.l0 k (Go.bits .and .i64 a1 3) 0 bt279.1 bt279.2.1 bt279.2.2)) else (some (0, 0, ([] : List Bool), t278)))
theorem raster_Turn.mono_l : ∀ k, (∀ y0 y1 y2 y3 y4, LeO (raster_Turn.l0 k y0 y1 y2 y3 y4) (raster_Turn.l0 (k + 1) y0 y1 y2 y3 y4))
  | 0 => fun _ _ _ _ _ r h => by simp [raster_Turn.l0] at h
  | k + 1 => by
    have ih0 := raster_Turn.mono_l k
    · intro y0 y1 y2 y3 y4
      unfold raster_Turn.l0
      repeat' first
      | (with_reducible exact ih0 _ _ _ _ _)
      | (with_reducible exact raster_turned_bool.mono _ _ _ _)
      | (with_reducible exact LeO.refl _)
      | (with_reducible exact LeO.none _)
      | (with_reducible refine LeO.ite ?_ ?_)
      | (with_reducible refine LeO.bind ?_ (fun _ => ?_))
      | exact ih0 _ _ _ _ _
      | exact raster_turned_bool.mono _ _ _ _
      | exact LeO.none _
      | refine LeO.ite ?_ ?_
      | refine LeO.bind ?_ (fun _ => ?_)
theorem raster_Turn.mono : ∀ a0 a1 a2 a3 k, LeO (raster_Turn.f k a0 a1 a2 a3) (raster_Turn.f (k + 1) a0 a1 a2 a3) := by
  intro a0 a1 a2 a3 k
  have ih0 := raster_Turn.mono_l k
  unfold raster_Turn.f
  repeat' first
      | (with_reducible exact ih0 _ _ _ _ _)
      | (with_reducible exact raster_turned_bool.mono _ _ _ _)
      | (with_reducible exact LeO.refl _)
      | (with_reducible exact LeO.none _)
      | (with_reducible refine LeO.ite ?_ ?_)
      | (with_reducible refine LeO.bind ?_ (fun _ => ?_))
      | exact ih0 _ _ _ _ _
      | exact raster_turned_bool.mono _ _ _ _
      | exact LeO.none _
      | refine LeO.ite ?_ ?_
      | refine LeO.bind ?_ (fun _ => ?_)
def raster_Turn.T7 : Bool × List (List Nat × List Nat) := (true, [([], []), ([0], [0]), ([], []), ([2], [2]), ([], []), ([4], [4]), ([], []), ([6], [6]), ([], []), ([8], [8]), ([5, 7, 9], [5, 7, 9]), ([1, 3, 10], [1, 3, 10]), ([11, 10, 0, 1, 2, 3, 4, 5, 6, 7, 8, 9, 10, 11], [11])])
def raster_Turn.B7 : List Nat := [0, 1, 0, 4, 0, 16, 0, 64, 0, 256, 1008, 2047, 4095]
theorem raster_Turn.tab7 : rtab .any (opsOf Try.f16 7) = raster_Turn.T7 := by kernel_rfl
theorem raster_Turn.bits7 : waitsOk raster_Turn.T7.2 raster_Turn.B7 = true := by kernel_rfl
set_option maxHeartbeats 8000000 in
set_option maxRecDepth 100000 in
theorem raster_Turn.calls (k : Nat) (a0_0 : Int) (a0_1 : Int) (A0_2 : Option Addr) (c0_2 : Nat) (l0_2 : List Bool) (a1 : Int) (r1 : Int) (r2 : Int) (r3 : List Bool) (r4 : Int) (w : World) (hr0_2 : Kd.C Kd.bool w A0_2 l0_2.length l0_2) (hc0_2 : l0_2.length ≤ c0_2) (h : raster_Turn.f k a0_0 a0_1 l0_2 a1 = some (r1, r2, r3, r4)) :
    Calls Try.prog 16 #[.agg #[.int .i64 a0_0, .int .i64 a0_1, .slice A0_2 l0_2.length c0_2], .int .i64 a1] w fun e w' => ∃ v2_ : Value, e = .returned (.tuple #[.agg #[.int .i64 r1, .int .i64 r2, v2_], .int .i64 r4]) ∧ Kd.R Kd.bool 4 w' w.heap.size (fun _ => True) v2_ r3 ∧ Below w.heap.size w w' := by
  have hu33 := Try.underlying33
  have HR0_2 := Aside0.mk hr0_2
  have HC0_2 := Aside0.mk hc0_2
  clear hr0_2 hc0_2
  have HB := Aside0.mk (Below.refl w.heap.size w)
  have H : ((raster_Check.f a0_0 a0_1 l0_2).bind fun t278 => (if t278 = 0 then ((raster_clone.f a0_0 a0_1 l0_2).bind fun bt279 => (raster_Turn.l0 k (Go.bits .and .i64 a1 3) 0 bt279.1 bt279.2.1 bt279.2.2)) else (some (0, 0, ([] : List Bool), t278)))) = some (r1, r2, r3, r4) := h
  clear h
  replace H := Option.bind_eq_some_iff.mp H
  obtain ⟨t278, A30, H⟩ := H
  replace H : (if t278 = 0 then ((raster_clone.f a0_0 a0_1 l0_2).bind fun bt279 => (raster_Turn.l0 k (Go.bits .and .i64 a1 3) 0 bt279.1 bt279.2.1 bt279.2.2)) else (some (0, 0, ([] : List Bool), t278))) = some (r1, r2, r3, r4) := H
  have A3 := Aside0.mk A30
  clear A30
  by_cases c4 : t278 = 0
  · rw [if_pos c4] at H
    have c4b0 : (t278 == 0) = true := beq_iff_eq.mpr c4
    have c4b1 : (t278 != 0) = false := bne_eq_false_iff_eq.mpr c4
    clear c4
    replace H := Option.bind_eq_some_iff.mp H
    obtain ⟨⟨t279, t280, t281⟩, A50, H⟩ := H
    replace H : (raster_Turn.l0 k (Go.bits .and .i64 a1 3) 0 t279 t280 t281) = some (r1, r2, r3, r4) := H
    have A5 := Aside0.mk A50
    clear A50
    have H' := Aside0.mk H
    clear H
    go_enter Try.func16, Try.ntmps16
    go_wp2_with (first | ((with_reducible refine gate_dst (N := 2) rfl ?_); refine box_event ?hg (N := 2) ?hd (cs := #[.int .i64 a0_0, .int .i64 a0_1, .slice A0_2 l0_2.length c0_2]) (t := 33) ?hr ?_; (case hd => rfl); (case hg => rfl); (case hr => first | (go_simp; done) | (go_simp; rfl)); intro gb276 hg w6 hbox hb; have n0_ := Aside0.mk (below_step (hb0 HB) hb); have n1_ := Aside0.mk (hbox); have n2_ := Aside0.mk ((by rw [hg]; exact (below_size (hb0 HB)) : w.heap.size ≤ gb276)); have n3_ := Aside0.mk ((by rw [hg]; exact (below_size (hb0 HB)) : w.heap.size ≤ gb276)); clear HB; have HB := n0_; have BK276 := n1_; have GW276 := n2_; have GE276 := n3_; clear n0_ n1_ n2_ n3_; clear hb hbox hg) | ((with_reducible refine gate_dst (N := 4) rfl ?_); refine box_event ?hg (N := 4) ?hd (cs := #[.int .i64 0, .int .i64 0, .slice none 0 0]) (t := 33) ?hr ?_; (case hd => rfl); (case hg => rfl); (case hr => first | (go_simp; done) | (go_simp; rfl)); intro gb277 hg w7 hbox hb; have n0_ := Aside0.mk (blk_below (bkx BK276) hb); have n1_ := Aside0.mk (below_step (hb1 HB GE276) hb); have n2_ := Aside0.mk (hbox); have n3_ := Aside0.mk ((by rw [hg]; exact (below_size (hb1 HB GE276)) : w.heap.size ≤ gb277)); have n4_ := Aside0.mk ((by rw [hg]; exact (below_size (hb1 HB GE276)) : w.heap.size ≤ gb277)); have n5_ := Aside0.mk (nel hg BK276 : gb276 ≠ gb277); have n6_ := Aside0.mk (neg hg BK276 : gb277 ≠ gb276); clear BK276; clear HB; have BK276 := n0_; have HB := n1_; have BK277 := n2_; have GW277 := n3_; have GE277 := n4_; have NB276_277 := n5_; have NB277_276 := n6_; clear n0_ n1_ n2_ n3_ n4_ n5_ n6_; clear hb hbox hg; have hnb8 := NB276_277.out; have hnc8 := NB277_276.out; have hcz9_0 : w7.cell? ⟨gb276, 0, none⟩ = some (.int .i64 a0_0) := (blk_cell BK276.out 0).trans rfl; have hcz9_1 : w7.cell? ⟨gb276, 1, none⟩ = some (.int .i64 a0_1) := (blk_cell BK276.out 1).trans rfl; have hcz9_2 : w7.cell? ⟨gb276, 2, none⟩ = some (.slice A0_2 l0_2.length c0_2) := (blk_cell BK276.out 2).trans rfl; have hfz9_0 := blk_frozen BK276.out 0; have hfz9_1 := blk_frozen BK276.out 1; have hfz9_2 := blk_frozen BK276.out 2) | ((with_reducible refine gate_callee (f := 35) rfl ?_); refine goesL_ (some 9) rfl rfl Try.func35 (by kernel_rfl) rfl #[.agg #[.int .i64 a0_0, .int .i64 a0_1, .slice A0_2 l0_2.length c0_2]] rfl mapx ?_; (with_reducible refine (raster_Check.calls a0_0 a0_1 _ _ l0_2 t278 _ ?side1 ?side2 A3.out).mono ?_); (case side1 => repeat (first | exact (Kd.C_below HR0_2.out HB.out) | (with_reducible refine Kd.C_alloc ?_ _) | (with_reducible refine Kd.C_drewN ?_ _) | (with_reducible refine Kd.C_drew ?_))); (case side2 => exact HC0_2.out); rintro e w10 ⟨rfl, hb⟩; refine ⟨_, rfl, ?_⟩; have n0_ := Aside0.mk (blk_below (bkx BK276) hb); have n1_ := Aside0.mk (blk_below (bkx BK277) hb); have n2_ := Aside0.mk (below_step (hb2 HB GE276 GE277) hb); clear BK276; clear BK277; clear HB; have BK276 := n0_; have BK277 := n1_; have HB := n2_; clear n0_ n1_ n2_; (try clear hb); (try clear hb2); (try clear hk); (try clear hi); have hcz11_0 : w10.cell? ⟨gb276, 0, none⟩ = some (.int .i64 a0_0) := (blk_cell BK276.out 0).trans rfl; have hcz11_1 : w10.cell? ⟨gb276, 1, none⟩ = some (.int .i64 a0_1) := (blk_cell BK276.out 1).trans rfl; have hcz11_2 : w10.cell? ⟨gb276, 2, none⟩ = some (.slice A0_2 l0_2.length c0_2) := (blk_cell BK276.out 2).trans rfl; have hfz11_0 := blk_frozen BK276.out 0; have hfz11_1 := blk_frozen BK276.out 1; have hfz11_2 := blk_frozen BK276.out 2) | ((with_reducible refine gate_callee (f := 37) rfl ?_); refine goesL_ (some 15) rfl rfl Try.func37 (by kernel_rfl) rfl #[.agg #[.int .i64 a0_0, .int .i64 a0_1, .slice A0_2 l0_2.length c0_2]] rfl mapx ?_; (with_reducible refine (raster_clone.calls a0_0 a0_1 _ _ l0_2 t279 t280 t281 _ ?side1 ?side2 A5.out).mono ?_); (case side1 => repeat (first | exact (Kd.C_below HR0_2.out HB.out) | (with_reducible refine Kd.C_alloc ?_ _) | (with_reducible refine Kd.C_drewN ?_ _) | (with_reducible refine Kd.C_drew ?_))); (case side2 => exact HC0_2.out); rintro e w12 ⟨v282, rfl, ho0, hb⟩; refine ⟨_, rfl, ?_⟩; have n0_ := Aside0.mk (Kd.R_lower ho0 (below_size (hb2 HB GE276 GE277))); have n1_ := Aside0.mk (blk_below (bkx BK276) hb); have n2_ := Aside0.mk (blk_below (bkx BK277) hb); have n3_ := Aside0.mk (below_step (hb2 HB GE276 GE277) hb); clear BK276; clear BK277; clear HB; have HO283 := n0_; have BK276 := n1_; have BK277 := n2_; have HB := n3_; clear n0_ n1_ n2_ n3_; (try clear hb); (try clear hb2); (try clear hk); (try clear hi); (try clear ho0)) | ((with_reducible refine gate_dst (N := 7) rfl ?_); refine box_event ?hg (N := 7) ?hd (cs := #[.int .i64 0, .int .i64 0, .slice none 0 0]) (t := 33) ?hr ?_; (case hd => rfl); (case hg => rfl); (case hr => first | (go_simp; done) | (go_simp; rfl)); intro gb284 hg w13 hbox hb; have n0_ := Aside0.mk (Kd.R_below (rkx HO283) hb); have n1_ := Aside0.mk (blk_below (bkx BK276) hb); have n2_ := Aside0.mk (blk_below (bkx BK277) hb); have n3_ := Aside0.mk (below_step (hb2 HB GE276 GE277) hb); have n4_ := Aside0.mk (hbox); have n5_ := Aside0.mk ((by rw [hg]; exact (below_size (hb2 HB GE276 GE277)) : w.heap.size ≤ gb284)); have n6_ := Aside0.mk ((by rw [hg]; exact (below_size (hb2 HB GE276 GE277)) : w.heap.size ≤ gb284)); have n7_ := Aside0.mk (nel hg BK276 : gb276 ≠ gb284); have n8_ := Aside0.mk (neg hg BK276 : gb284 ≠ gb276); have n9_ := Aside0.mk (nel hg BK277 : gb277 ≠ gb284); have n10_ := Aside0.mk (neg hg BK277 : gb284 ≠ gb277); clear HO283; clear BK276; clear BK277; clear HB; have HO283 := n0_; have BK276 := n1_; have BK277 := n2_; have HB := n3_; have BK284 := n4_; have GW284 := n5_; have GE284 := n6_; have NB276_284 := n7_; have NB284_276 := n8_; have NB277_284 := n9_; have NB284_277 := n10_; clear n0_ n1_ n2_ n3_ n4_ n5_ n6_ n7_ n8_ n9_ n10_; clear hb hbox hg; have hnb14 := NB284_276.out; have hnc14 := NB276_284.out; have hnb15 := NB284_277.out; have hnc15 := NB277_284.out; have hcz16_0 : w13.cell? ⟨gb284, 0, none⟩ = some (.int .i64 0) := (blk_cell BK284.out 0).trans rfl; have hcz16_1 : w13.cell? ⟨gb284, 1, none⟩ = some (.int .i64 0) := (blk_cell BK284.out 1).trans rfl; have hcz16_2 : w13.cell? ⟨gb284, 2, none⟩ = some (.slice none 0 0) := (blk_cell BK284.out 2).trans rfl; have hfz16_0 := blk_frozen BK284.out 0; have hfz16_1 := blk_frozen BK284.out 1; have hfz16_2 := blk_frozen BK284.out 2; obtain ⟨Ao17, co17, eo17⟩ := Kd.R_slice HO283.out; subst eo17))
    go_loopg [18] k (fun kq v18 w' => ∃ (x18_1 : Int) (x285000_1 : Int) (x285001_1 : Int) (x285002_1 : List Bool) (u285002 : Value), v18 = .int .i64 x18_1 ∧ Aside0 (raster_Turn.l0 kq (Go.bits .and .i64 a1 3) x18_1 x285000_1 x285001_1 x285002_1 = some (r1, r2, r3, r4)) ∧ Aside0 (kq ≤ k) ∧ Aside0 (Kd.R Kd.bool 4 w' w.heap.size (fun _ => True) u285002 x285002_1) ∧ Aside0 (w'.heap[gb276]? = some (.cells #[.int .i64 a0_0, .int .i64 a0_1, (.slice A0_2 l0_2.length c0_2)] 33 (0, 0))) ∧ Aside0 (w'.heap[gb277]? = some (.cells #[.int .i64 0, .int .i64 0, (.slice none 0 0)] 33 (0, 0))) ∧ Aside0 (w'.heap[gb284]? = some (.cells #[.int .i64 x285000_1, .int .i64 x285001_1, u285002] 33 (0, 0))) ∧ Aside0 (Below w.heap.size w w'))
    case atStart => exact ⟨(0), (t279), (t280), (t281), (.slice Ao17 t281.length co17), (by first | rfl | (simp; done) | (simp [*]; done)), H', ⟨Nat.le_refl _⟩, ⟨by refine rkt ?_; exact Kd.R_mono (Kd.R_far (p := ⟨gb284, 2, none⟩) (Kd.R_far (p := ⟨gb284, 1, none⟩) (Kd.R_far (p := ⟨gb284, 0, none⟩) (Kd.R_types HO283.out BK284.out (by decide)) (fun _ hk => hk.2) (.int .i64 t279)) (fun _ hk => hk.2) (.int .i64 t280)) (fun _ hk => hk.2) (.slice Ao17 t281.length co17)) (fun _ hk => trivial)⟩, ⟨bky BK276 NB276_284⟩, ⟨bky BK277 NB277_284⟩, ⟨by refine bkt ?_; refine blk_put (cs := #[.int .i64 t279, .int .i64 t280, .slice none 0 0]) ?_ 2 _ rfl; refine bkt ?_; refine blk_put (cs := #[.int .i64 t279, .int .i64 0, .slice none 0 0]) ?_ 1 _ rfl; refine bkt ?_; refine blk_put (cs := #[.int .i64 0, .int .i64 0, .slice none 0 0]) ?_ 0 _ rfl; refine bkt ?_; exact BK284.out⟩, ⟨hb3 HB GE276 GE277 GE284⟩⟩
    case round =>
      clear H'
      (try clear c1); (try clear p2); (try clear c3); (try clear c4); (try clear c4b0); (try clear c4b1); (try clear c8); (try clear c14); (try clear c15); (try clear c16); (try clear hcz11_0); (try clear hcz11_1); (try clear hcz11_2); (try clear hcz16_0); (try clear hcz16_1); (try clear hcz16_2); (try clear hcz9_0); (try clear hcz9_1); (try clear hcz9_2); (try clear hfz11_0); (try clear hfz11_1); (try clear hfz11_2); (try clear hfz16_0); (try clear hfz16_1); (try clear hfz16_2); (try clear hfz9_0); (try clear hfz9_1); (try clear hfz9_2)
      obtain ⟨x18_1, x285000_1, x285001_1, x285002_1, u285002, rfl, HA, HK1, HO_285002, BK276, BK277, BK284, HB⟩ := hrel
      cases gk with
      | zero => exact absurd HA.out (by simp [raster_Turn.l0])
      | succ k1 =>
        have H := HA.out
        clear HA
        simp only [raster_Turn.l0] at H
        by_cases c18 : x18_1 < (Go.bits .and .i64 a1 3)
        · rw [if_pos c18] at H
          have c18b0 : decide (x18_1 < (Go.bits .and .i64 a1 3)) = true := decide_eq_true c18
          clear c18
          replace H := Option.bind_eq_some_iff.mp H
          obtain ⟨t285, A190, H⟩ := H
          replace H : (raster_Turn.l0 k1 (Go.bits .and .i64 a1 3) (wrap64 (x18_1 + 1)) x285001_1 x285000_1 t285) = some (r1, r2, r3, r4) := H
          have A19 := Aside0.mk A190
          clear A190
          have H' := Aside0.mk H
          clear H
          try go_wp2
          have n0_ := Aside0.mk (Kd.R_drew HO_285002.out)
          have n1_ := Aside0.mk (blk_drew BK276.out)
          have n2_ := Aside0.mk (blk_drew BK277.out)
          have n3_ := Aside0.mk (blk_drew BK284.out)
          have n4_ := Aside0.mk (below_drew1 HB.out)
          clear HO_285002
          clear BK276
          clear BK277
          clear BK284
          clear HB
          have HO_285002 := n0_
          have BK276 := n1_
          have BK277 := n2_
          have BK284 := n3_
          have HB := n4_
          clear n0_ n1_ n2_ n3_ n4_
          obtain ⟨Ao21, co21, eo21⟩ := Kd.R_slice HO_285002.out
          (first | subst eo21 | (injection eo21 with f1_ f2_ f3_; have f4_ := f1_.symm; have f5_ := f3_.symm; clear f1_ f2_ f3_; subst f4_; subst f5_))
          refine start_ (n := 13) (S := fun w' => w'.cell? ⟨gb284, 0, none⟩ = some (.int .i64 x285000_1) ∧ w'.cell? ⟨gb284, 1, none⟩ = some (.int .i64 x285001_1) ∧ w'.cell? ⟨gb284, 2, none⟩ = some (.slice Ao21 x285002_1.length co21)) (ds := [12]) (bA 13 0) (by kernel_rfl) rfl rfl ⟨(blk_cell BK284.out 0).trans rfl, (blk_cell BK284.out 1).trans rfl, (blk_cell BK284.out 2).trans rfl⟩ (fun hHeld => ?_); refine with_tabW raster_Turn.tab7 raster_Turn.bits7 (fun HT_ HW_ => ?_)
          generalize wr.drew = w20 at HO_285002 BK276 BK277 BK284 HB hHeld ⊢
          refine pt HT_ 0 20 ?_
          refine pt HT_ 2 22 ?_
          refine pt HT_ 4 24 ?_
          refine pt HT_ 6 26 ?_
          refine pt HT_ 8 28 ?_
          refine tk HT_ HW_ hHeld 1 21 ?_
          refine tk HT_ HW_ hHeld 3 23 ?_
          refine tk HT_ HW_ hHeld 5 25 ?_
          refine tk HT_ HW_ hHeld 7 27 ?_
          refine tk HT_ HW_ hHeld 9 29 ?_
          refine one_ (i := 10) (N := some 30) (bA 13 2047) rfl rfl (one_of HT_.out (by kernel_rfl)) (by decide) (fun K hK => ?_)
          refine goes_ Try.func38 (by kernel_rfl) rfl #[.slice Ao21 x285002_1.length co21, .int .i64 x285000_1, .int .i64 x285001_1] (by rfl) rfl rfl mapx ?_
          with_reducible refine (raster_turned_bool.calls k1 _ _ x285002_1 x285000_1 x285001_1 t285 _ ?side1 ?side2 A19.out).mono ?_
          (case side1 => repeat (first | exact (Kd.R_reads' HO_285002.out).2.2 | (with_reducible refine Kd.C_alloc ?_ _) | (with_reducible refine Kd.C_drewN ?_ _) | (with_reducible refine Kd.C_drew ?_)))
          (case side2 => exact (Kd.R_reads' HO_285002.out).2.1)
          rintro e w22 ⟨v286, rfl, ho0, hb⟩
          refine ⟨_, rfl, ?_⟩
          have n0_ := Aside0.mk (Kd.R_elder' (rkx HO_285002) (Kd.R_base ho0) hb)
          have n1_ := Aside0.mk (Kd.R_lower (Kd.R_new' ho0 (Kd.R_lt (rkx HO_285002))) (below_size (hb3 HB GE276 GE277 GE284)))
          have n2_ := Aside0.mk (blk_below (bkx BK276) hb)
          have n3_ := Aside0.mk (blk_below (bkx BK277) hb)
          have n4_ := Aside0.mk (blk_below (bkx BK284) hb)
          have n5_ := Aside0.mk (below_step (hb3 HB GE276 GE277 GE284) hb)
          clear HO_285002
          clear BK276
          clear BK277
          clear BK284
          clear HB
          have HO_285002 := n0_
          have HO287 := n1_
          have BK276 := n2_
          have BK277 := n3_
          have BK284 := n4_
          have HB := n5_
          clear n0_ n1_ n2_ n3_ n4_ n5_
          (try clear hb)
          (try clear hb2)
          (try clear hk)
          (try clear hi)
          (try clear ho0)
          obtain ⟨Ao23, co23, eo23⟩ := Kd.R_slice HO287.out
          (first | subst eo23 | (injection eo23 with f1_ f2_ f3_; have f4_ := f1_.symm; have f5_ := f3_.symm; clear f1_ f2_ f3_; subst f4_; subst f5_))
          refine hK.out _ _ ⟨(blk_cell BK284.out 0).trans rfl, (blk_cell BK284.out 1).trans rfl, (blk_cell BK284.out 2).trans rfl⟩ (fun hHeld => ?_)
          clear hK K
          refine norm_ (a' := ?_) ?_ ?_
          rotate_left
          · show Act.put _ (some 30) _ = _
            simp only [Act.put, List.setIfInBounds_toArray, List.set_cons_zero, List.set_cons_succ, i64_w, i32_w]
            rfl
          refine pt HT_ 11 31 ?_
          refine last_ (i := 12) (N := none) (bA 13 8191) rfl rfl (one_of HT_.out (by kernel_rfl)) (by decide) (fun K hK => ?_)
          have hs24 : w22.cell? ⟨gb284, 0, none⟩ = some (.int .i64 x285000_1) := (blk_cell BK284.out 0).trans rfl
          have hfs24 := blk_frozen BK284.out 0
          have hns24_0 := NB276_284.out
          have hns24_1 := NB277_284.out
          have hms24_0 := NB284_276.out
          have hms24_1 := NB284_277.out
          have hs25 : w22.cell? ⟨gb284, 1, none⟩ = some (.int .i64 x285001_1) := (blk_cell BK284.out 1).trans rfl
          have hfs25 := blk_frozen BK284.out 1
          have hns25_0 := NB276_284.out
          have hns25_1 := NB277_284.out
          have hms25_0 := NB284_276.out
          have hms25_1 := NB284_277.out
          have hs26 : w22.cell? ⟨gb284, 2, none⟩ = some (.slice Ao21 x285002_1.length co21) := (blk_cell BK284.out 2).trans rfl
          have hfs26 := blk_frozen BK284.out 2
          have hns26_0 := NB276_284.out
          have hns26_1 := NB277_284.out
          have hms26_0 := NB284_276.out
          have hms26_1 := NB284_277.out
          refine skip_ (w1 := ?_) (by rfl) rfl ?_ ?_
          rotate_left
          · go_simp
            rfl
          refine hK.out _ _ ?_
          clear hK K
          refine done_ (done_of HT_.out (by kernel_rfl)) ?_
          try go_wp2
          go_roundg k1
          case measure => have := HK1.out; omega
          case rel => exact ⟨(wrap64 (x18_1 + 1)), (x285001_1), (x285000_1), (t285), (.slice Ao23 t285.length co23), (by first | rfl | (simp; done) | (simp [*]; done)), H', ⟨by have := HK1.out; omega⟩, ⟨by refine rkt ?_; exact Kd.R_mono (Kd.R_far (p := ⟨gb284, 2, none⟩) (Kd.R_far (p := ⟨gb284, 1, none⟩) (Kd.R_far (p := ⟨gb284, 0, none⟩) (Kd.R_types HO287.out BK284.out (by decide)) (fun _ hk => hk.2) (.int .i64 x285001_1)) (fun _ hk => hk.2) (.int .i64 x285000_1)) (fun _ hk => hk.2) (.slice Ao23 t285.length co23)) (fun _ hk => trivial)⟩, ⟨bky BK276 NB276_284⟩, ⟨bky BK277 NB277_284⟩, ⟨by refine bkt ?_; refine blk_put (cs := #[.int .i64 x285001_1, .int .i64 x285000_1, .slice Ao21 x285002_1.length co21]) ?_ 2 _ rfl; refine bkt ?_; refine blk_put (cs := #[.int .i64 x285001_1, .int .i64 x285001_1, .slice Ao21 x285002_1.length co21]) ?_ 1 _ rfl; refine bkt ?_; refine blk_put (cs := #[.int .i64 x285000_1, .int .i64 x285001_1, .slice Ao21 x285002_1.length co21]) ?_ 0 _ rfl; refine bkt ?_; exact BK284.out⟩, ⟨hb3 HB GE276 GE277 GE284⟩⟩
        · rw [if_neg c18] at H
          have c18b0 : decide (x18_1 < (Go.bits .and .i64 a1 3)) = false := decide_eq_false c18
          clear c18
          simp only [Option.some.injEq, Prod.mk.injEq] at H
          obtain ⟨rfl, rfl, rfl, rfl⟩ := H
          have hnb27 := NB284_276.out
          have hnc27 := NB276_284.out
          have hnb28 := NB284_277.out
          have hnc28 := NB277_284.out
          have hcz29_0 : wr.cell? ⟨gb284, 0, none⟩ = some (.int .i64 x285000_1) := (blk_cell BK284.out 0).trans rfl
          have hcz29_1 : wr.cell? ⟨gb284, 1, none⟩ = some (.int .i64 x285001_1) := (blk_cell BK284.out 1).trans rfl
          have hcz29_2 : wr.cell? ⟨gb284, 2, none⟩ = some (u285002) := (blk_cell BK284.out 2).trans rfl
          have hfz29_0 := blk_frozen BK284.out 0
          have hfz29_1 := blk_frozen BK284.out 1
          have hfz29_2 := blk_frozen BK284.out 2
          have hnb30 := NB277_276.out
          have hnc30 := NB276_277.out
          have hcz31_0 : wr.cell? ⟨gb277, 0, none⟩ = some (.int .i64 0) := (blk_cell BK277.out 0).trans rfl
          have hcz31_1 : wr.cell? ⟨gb277, 1, none⟩ = some (.int .i64 0) := (blk_cell BK277.out 1).trans rfl
          have hcz31_2 : wr.cell? ⟨gb277, 2, none⟩ = some (.slice none 0 0) := (blk_cell BK277.out 2).trans rfl
          have hfz31_0 := blk_frozen BK277.out 0
          have hfz31_1 := blk_frozen BK277.out 1
          have hfz31_2 := blk_frozen BK277.out 2
          obtain ⟨Ao32, co32, eo32⟩ := Kd.R_slice HO_285002.out
          subst eo32
          go_wp2
          refine bodyPost_ret (results_ct rfl _ _ gb277 33 #[.int .i64 x285000_1, .int .i64 x285001_1, .slice Ao32 x285002_1.length co32] (0, 0) _ rfl (by refine bkt ?_; refine blk_put (cs := #[.int .i64 x285000_1, .int .i64 x285001_1, .slice none 0 0]) ?_ 2 _ rfl; refine bkt ?_; refine blk_put (cs := #[.int .i64 x285000_1, .int .i64 0, .slice none 0 0]) ?_ 1 _ rfl; refine bkt ?_; refine blk_put (cs := #[.int .i64 0, .int .i64 0, .slice none 0 0]) ?_ 0 _ rfl; refine bkt ?_; exact BK277.out) Try.underlying33 rfl (by kernel_rfl)) rfl ?_
          exact ⟨_, by first | rfl | (simp [errW_none, errW_some] <;> rfl) | (simp [*, errW_none, errW_some] <;> rfl), by refine rkt ?_; exact Kd.R_mono (Kd.R_far (p := ⟨gb277, 2, none⟩) (Kd.R_far (p := ⟨gb277, 1, none⟩) (Kd.R_far (p := ⟨gb277, 0, none⟩) (Kd.R_types HO_285002.out BK277.out (by decide)) (fun _ hk => hk.2) (.int .i64 x285000_1)) (fun _ hk => hk.2) (.int .i64 x285001_1)) (fun _ hk => hk.2) (.slice Ao32 x285002_1.length co32)) (fun _ hk => trivial), by repeat (first | (with_reducible first | exact HB.out | apply below_alloc | apply pw_below_drewN | apply below_drew1 | refine below_set ?_ GE276.out | refine below_set ?_ GE277.out | refine below_set ?_ GE284.out) | exact HB.out)⟩
  · rw [if_neg c4] at H
    have c4b0 : (t278 == 0) = false := beq_eq_false_iff_ne.mpr c4
    have c4b1 : (t278 != 0) = true := bne_iff_ne.mpr c4
    simp only [Option.some.injEq, Prod.mk.injEq] at H
    obtain ⟨rfl, rfl, rfl, rfl⟩ := H
    go_enter Try.func16, Try.ntmps16
    go_wp2_with (first | ((with_reducible refine gate_dst (N := 2) rfl ?_); refine box_event ?hg (N := 2) ?hd (cs := #[.int .i64 a0_0, .int .i64 a0_1, .slice A0_2 l0_2.length c0_2]) (t := 33) ?hr ?_; (case hd => rfl); (case hg => rfl); (case hr => first | (go_simp; done) | (go_simp; rfl)); intro gb276 hg w33 hbox hb; have n0_ := Aside0.mk (below_step (hb0 HB) hb); have n1_ := Aside0.mk (hbox); have n2_ := Aside0.mk ((by rw [hg]; exact (below_size (hb0 HB)) : w.heap.size ≤ gb276)); have n3_ := Aside0.mk ((by rw [hg]; exact (below_size (hb0 HB)) : w.heap.size ≤ gb276)); clear HB; have HB := n0_; have BK276 := n1_; have GW276 := n2_; have GE276 := n3_; clear n0_ n1_ n2_ n3_; clear hb hbox hg) | ((with_reducible refine gate_dst (N := 4) rfl ?_); refine box_event ?hg (N := 4) ?hd (cs := #[.int .i64 0, .int .i64 0, .slice none 0 0]) (t := 33) ?hr ?_; (case hd => rfl); (case hg => rfl); (case hr => first | (go_simp; done) | (go_simp; rfl)); intro gb277 hg w34 hbox hb; have n0_ := Aside0.mk (blk_below (bkx BK276) hb); have n1_ := Aside0.mk (below_step (hb1 HB GE276) hb); have n2_ := Aside0.mk (hbox); have n3_ := Aside0.mk ((by rw [hg]; exact (below_size (hb1 HB GE276)) : w.heap.size ≤ gb277)); have n4_ := Aside0.mk ((by rw [hg]; exact (below_size (hb1 HB GE276)) : w.heap.size ≤ gb277)); have n5_ := Aside0.mk (nel hg BK276 : gb276 ≠ gb277); have n6_ := Aside0.mk (neg hg BK276 : gb277 ≠ gb276); clear BK276; clear HB; have BK276 := n0_; have HB := n1_; have BK277 := n2_; have GW277 := n3_; have GE277 := n4_; have NB276_277 := n5_; have NB277_276 := n6_; clear n0_ n1_ n2_ n3_ n4_ n5_ n6_; clear hb hbox hg; have hnb35 := NB276_277.out; have hnc35 := NB277_276.out; have hcz36_0 : w34.cell? ⟨gb276, 0, none⟩ = some (.int .i64 a0_0) := (blk_cell BK276.out 0).trans rfl; have hcz36_1 : w34.cell? ⟨gb276, 1, none⟩ = some (.int .i64 a0_1) := (blk_cell BK276.out 1).trans rfl; have hcz36_2 : w34.cell? ⟨gb276, 2, none⟩ = some (.slice A0_2 l0_2.length c0_2) := (blk_cell BK276.out 2).trans rfl; have hfz36_0 := blk_frozen BK276.out 0; have hfz36_1 := blk_frozen BK276.out 1; have hfz36_2 := blk_frozen BK276.out 2) | ((with_reducible refine gate_callee (f := 35) rfl ?_); refine goesL_ (some 9) rfl rfl Try.func35 (by kernel_rfl) rfl #[.agg #[.int .i64 a0_0, .int .i64 a0_1, .slice A0_2 l0_2.length c0_2]] rfl mapx ?_; (with_reducible refine (raster_Check.calls a0_0 a0_1 _ _ l0_2 t278 _ ?side1 ?side2 A3.out).mono ?_); (case side1 => repeat (first | exact (Kd.C_below HR0_2.out HB.out) | (with_reducible refine Kd.C_alloc ?_ _) | (with_reducible refine Kd.C_drewN ?_ _) | (with_reducible refine Kd.C_drew ?_))); (case side2 => exact HC0_2.out); rintro e w37 ⟨rfl, hb⟩; refine ⟨_, rfl, ?_⟩; have n0_ := Aside0.mk (blk_below (bkx BK276) hb); have n1_ := Aside0.mk (blk_below (bkx BK277) hb); have n2_ := Aside0.mk (below_step (hb2 HB GE276 GE277) hb); clear BK276; clear BK277; clear HB; have BK276 := n0_; have BK277 := n1_; have HB := n2_; clear n0_ n1_ n2_; (try clear hb); (try clear hb2); (try clear hk); (try clear hi); have hcz38_0 : w37.cell? ⟨gb277, 0, none⟩ = some (.int .i64 0) := (blk_cell BK277.out 0).trans rfl; have hcz38_1 : w37.cell? ⟨gb277, 1, none⟩ = some (.int .i64 0) := (blk_cell BK277.out 1).trans rfl; have hcz38_2 : w37.cell? ⟨gb277, 2, none⟩ = some (.slice none 0 0) := (blk_cell BK277.out 2).trans rfl; have hfz38_0 := blk_frozen BK277.out 0; have hfz38_1 := blk_frozen BK277.out 1; have hfz38_2 := blk_frozen BK277.out 2))
    refine bodyPost_ret (results_ct rfl _ _ gb277 33 #[.int .i64 0, .int .i64 0, .slice none 0 0] (0, 0) _ rfl (by refine bkt ?_; refine blk_put (cs := #[.int .i64 0, .int .i64 0, .slice none 0 0]) ?_ 2 _ rfl; refine bkt ?_; refine blk_put (cs := #[.int .i64 0, .int .i64 0, .slice none 0 0]) ?_ 1 _ rfl; refine bkt ?_; refine blk_put (cs := #[.int .i64 0, .int .i64 0, .slice none 0 0]) ?_ 0 _ rfl; refine bkt ?_; exact BK277.out) Try.underlying33 rfl (by kernel_rfl)) rfl ?_
    exact ⟨_, by first | rfl | (simp [errW_none, errW_some] <;> rfl) | (simp [*, errW_none, errW_some] <;> rfl), by first | exact Kd.R_nil _ _ _ _ _ | exact Kd.N_nil _ _ _ _ _ | exact Kd.V_nil _ _ _ _ _ | exact Kd.Q_nil _ _ _ _ _ | exact Kd.S_nil _ _ _ _ _, by repeat (first | (with_reducible first | exact HB.out | apply below_alloc | apply pw_below_drewN | apply below_drew1 | refine below_set ?_ GE276.out | refine below_set ?_ GE277.out) | exact HB.out)⟩

end Go.Proofs.Ytbipbbckfmilfaa.PR
