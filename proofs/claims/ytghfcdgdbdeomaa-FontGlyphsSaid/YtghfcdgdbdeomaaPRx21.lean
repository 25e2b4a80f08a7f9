-- Written by this session's own program (myprint.py).
import Derived.Test.YtghfcdgdbdeomaaPRx0
import Derived.Test.YtghfcdgdbdeomaaPRx12
import Derived.Test.YtghfcdgdbdeomaaPRx14
namespace Go.Proofs.Ytghfcdgdbdeomaa.PR
open Go.RowKit Go.Proofs.YtghfcdgdbdeomaaW.PrintWords Go.Proofs.YtghfcdgdbdeomaaW.PrintLast Go.Proofs.YtghfcdgdbdeomaaW.PrintMore Go.Proofs.Ytghfcdgdbdeomaa.XWords Go.Proofs.Ytghfcdgdbdeomaa.XShort
attribute [local go_sem] max2_int min2_int max_two min_two max_three min_three max_four min_four   -- for this text's walks alone
set_option linter.unusedVariables false
set_option linter.unusedSimpArgs false

/-! ### barscanref47_Distance: function 20 -/
mutual
def barscanref47_Distance.j0 : Nat → Bool → Int → Int → List Bool → Int → Int → List Bool → Option (Int × Int)
  | 0, _, _, _, _, _, _, _ => none
  | k + 1, x27, x441000, x441001, x441002, x448000, x448001, x448002 => if x27 = true then (some (0, 6)) else (barscanref47_Distance.l0 k 0 0 x441000 x441001 x441002 x448000 x448001 x448002)
def barscanref47_Distance.l0 : Nat → Int → Int → Int → Int → List Bool → Int → Int → List Bool → Option (Int × Int)
  | 0, _, _, _, _, _, _, _, _ => none
  | k + 1, x10, x11, x441000, x441001, x441002, x448000, x448001, x448002 => if x11 < 35 then (if 0 ≤ x11 then (if x11 < (x441002.length : Int) then (if x11 < (x448002.length : Int) then (if ((rdOf false x441002 x11) != (rdOf false x448002 x11)) = true then (barscanref47_Distance.l0 k (wrap64 (x10 + 1)) (wrap64 (x11 + 1)) x441000 x441001 x441002 x448000 x448001 x448002) else (barscanref47_Distance.l0 k x10 (wrap64 (x11 + 1)) x441000 x441001 x441002 x448000 x448001 x448002)) else (none)) else (none)) else (none)) else (some (x10, 0))
end
def barscanref47_Distance.f (k : Nat) (a0 : Int) (a1 : Int) : Option (Int × Int) := (barscanref47_Glyph.f k a0).bind fun bt434 => ((barscanref47_Glyph.f k a1).bind fun bt441 => (if bt434.2.2.2 = 0 then (barscanref47_Distance.j0 k (bt441.2.2.2 != 0) bt434.1 bt434.2.1 bt434.2.2.1 bt441.1 bt441.2.1 bt441.2.2.1) else (barscanref47_Distance.j0 k true bt434.1 bt434.2.1 bt434.2.2.1 bt441.1 bt441.2.1 bt441.2.2.1)))
theorem barscanref47_Distance.mono_l : ∀ k, (∀ y0 y1 y2 y3 y4 y5 y6, LeO (barscanref47_Distance.j0 k y0 y1 y2 y3 y4 y5 y6) (barscanref47_Distance.j0 (k + 1) y0 y1 y2 y3 y4 y5 y6)) ∧ (∀ y0 y1 y2 y3 y4 y5 y6 y7, LeO (barscanref47_Distance.l0 k y0 y1 y2 y3 y4 y5 y6 y7) (barscanref47_Distance.l0 (k + 1) y0 y1 y2 y3 y4 y5 y6 y7))
  | 0 => ⟨fun _ _ _ _ _ _ _ r h => by simp [barscanref47_Distance.j0] at h, fun _ _ _ _ _ _ _ _ r h => by simp [barscanref47_Distance.l0] at h⟩
  | k + 1 => by
    obtain ⟨ih0, ih1⟩ := barscanref47_Distance.mono_l k
    refine ⟨?_, ?_⟩
    · intro y0 y1 y2 y3 y4 y5 y6
      unfold barscanref47_Distance.j0
      repeat' first
      | (with_reducible exact ih0 _ _ _ _ _ _ _)
      | (with_reducible exact ih1 _ _ _ _ _ _ _ _)
      | (with_reducible exact barscanref47_Glyph.mono _ _)
      | (with_reducible exact LeO.refl _)
      | (with_reducible exact LeO.none _)
      | (with_reducible refine LeO.ite ?_ ?_)
      | (with_reducible refine LeO.bind ?_ (fun _ => ?_))
      | exact ih0 _ _ _ _ _ _ _
      | exact ih1 _ _ _ _ _ _ _ _
      | exact barscanref47_Glyph.mono _ _
      | exact LeO.none _
      | refine LeO.ite ?_ ?_
      | refine LeO.bind ?_ (fun _ => ?_)
    · intro y0 y1 y2 y3 y4 y5 y6 y7
      unfold barscanref47_Distance.l0
      repeat' first
      | (with_reducible exact ih0 _ _ _ _ _ _ _)
      | (with_reducible exact ih1 _ _ _ _ _ _ _ _)
      | (with_reducible exact barscanref47_Glyph.mono _ _)
      | (with_reducible exact LeO.refl _)
      | (with_reducible exact LeO.none _)
      | (with_reducible refine LeO.ite ?_ ?_)
      | (with_reducible refine LeO.bind ?_ (fun _ => ?_))
      | exact ih0 _ _ _ _ _ _ _
      | exact ih1 _ _ _ _ _ _ _ _
      | exact barscanref47_Glyph.mono _ _
      | exact LeO.none _
      | refine LeO.ite ?_ ?_
      | refine LeO.bind ?_ (fun _ => ?_)
theorem barscanref47_Distance.mono : ∀ a0 a1 k, LeO (barscanref47_Distance.f k a0 a1) (barscanref47_Distance.f (k + 1) a0 a1) := by
  intro a0 a1 k
  obtain ⟨ih0, ih1⟩ := barscanref47_Distance.mono_l k
  unfold barscanref47_Distance.f
  repeat' first
      | (with_reducible exact ih0 _ _ _ _ _ _ _)
      | (with_reducible exact ih1 _ _ _ _ _ _ _ _)
      | (with_reducible exact barscanref47_Glyph.mono _ _)
      | (with_reducible exact LeO.refl _)
      | (with_reducible exact LeO.none _)
      | (with_reducible refine LeO.ite ?_ ?_)
      | (with_reducible refine LeO.bind ?_ (fun _ => ?_))
      | exact ih0 _ _ _ _ _ _ _
      | exact ih1 _ _ _ _ _ _ _ _
      | exact barscanref47_Glyph.mono _ _
      | exact LeO.none _
      | refine LeO.ite ?_ ?_
      | refine LeO.bind ?_ (fun _ => ?_)
set_option maxHeartbeats 8000000 in
set_option maxRecDepth 100000 in
theorem barscanref47_Distance.calls (k : Nat) (a0 : Int) (a1 : Int) (r1 : Int) (r2 : Int) (w : World) (h : barscanref47_Distance.f k a0 a1 = some (r1, r2)) :
    Calls Try.prog 20 #[.int .u8 a0, .int .u8 a1] w fun e w' => e = .returned (.tuple #[.int .i64 r1, .int .i64 r2]) ∧ Below w.heap.size w w' := by
  have hu24 := Try.underlying24
  have HB := Aside0.mk (Below.refl w.heap.size w)
  have H : ((barscanref47_Glyph.f k a0).bind fun bt434 => ((barscanref47_Glyph.f k a1).bind fun bt441 => (if bt434.2.2.2 = 0 then (barscanref47_Distance.j0 k (bt441.2.2.2 != 0) bt434.1 bt434.2.1 bt434.2.2.1 bt441.1 bt441.2.1 bt441.2.2.1) else (barscanref47_Distance.j0 k true bt434.1 bt434.2.1 bt434.2.2.1 bt441.1 bt441.2.1 bt441.2.2.1)))) = some (r1, r2) := h
  clear h
  replace H := Option.bind_eq_some_iff.mp H
  obtain ⟨⟨t434, t435, t436, t439⟩, A30, H⟩ := H
  replace H : ((barscanref47_Glyph.f k a1).bind fun bt441 => (if t439 = 0 then (barscanref47_Distance.j0 k (bt441.2.2.2 != 0) t434 t435 t436 bt441.1 bt441.2.1 bt441.2.2.1) else (barscanref47_Distance.j0 k true t434 t435 t436 bt441.1 bt441.2.1 bt441.2.2.1))) = some (r1, r2) := H
  have A3 := Aside0.mk A30
  clear A30
  replace H := Option.bind_eq_some_iff.mp H
  obtain ⟨⟨t441, t442, t443, t446⟩, A40, H⟩ := H
  replace H : (if t439 = 0 then (barscanref47_Distance.j0 k (t446 != 0) t434 t435 t436 t441 t442 t443) else (barscanref47_Distance.j0 k true t434 t435 t436 t441 t442 t443)) = some (r1, r2) := H
  have A4 := Aside0.mk A40
  clear A40
  have HC5 := Aside0.mk H
  clear H
  go_enter Try.func20, Try.ntmps20
  go_upto_region 3 with (first | (go_at_call 19; (with_reducible refine (barscanref47_Glyph.calls k a0 t434 t435 t436 t439 _ A3.out).mono ?_); rintro e w6 ⟨v437, rfl, ho0, hb⟩; have n0_ := Aside0.mk (Kd.R_lower ho0 (below_size (hb0 HB))); have n1_ := Aside0.mk (below_step (hb0 HB) hb); clear HB; have HO438 := n0_; have HB := n1_; clear n0_ n1_; (try clear hb); (try clear hb2); (try clear hk); (try clear hi); (try clear ho0)) | ((with_reducible refine gate_dst (N := 6) rfl ?_); refine box_event ?hg (N := 6) ?hd (cs := #[.int .i64 0, .int .i64 0, .slice none 0 0]) (t := 24) ?hr ?_; (case hd => rfl); (case hg => rfl); (case hr => first | (go_simp; done) | (go_simp; rfl)); intro gb440 hg w7 hbox hb; have n0_ := Aside0.mk (Kd.R_below (rkx HO438) hb); have n1_ := Aside0.mk (below_step (hb0 HB) hb); have n2_ := Aside0.mk (hbox); have n3_ := Aside0.mk ((by rw [hg]; exact (below_size (hb0 HB)) : w.heap.size ≤ gb440)); have n4_ := Aside0.mk ((by rw [hg]; exact (below_size (hb0 HB)) : w.heap.size ≤ gb440)); clear HO438; clear HB; have HO438 := n0_; have HB := n1_; have BK440 := n2_; have GW440 := n3_; have GE440 := n4_; clear n0_ n1_ n2_ n3_ n4_; clear hb hbox hg; have hcz8_0 : w7.cell? ⟨gb440, 0, none⟩ = some (.int .i64 0) := (blk_cell BK440.out 0).trans rfl; have hcz8_1 : w7.cell? ⟨gb440, 1, none⟩ = some (.int .i64 0) := (blk_cell BK440.out 1).trans rfl; have hcz8_2 : w7.cell? ⟨gb440, 2, none⟩ = some (.slice none 0 0) := (blk_cell BK440.out 2).trans rfl; have hfz8_0 := blk_frozen BK440.out 0; have hfz8_1 := blk_frozen BK440.out 1; have hfz8_2 := blk_frozen BK440.out 2; obtain ⟨Ao9, co9, eo9⟩ := Kd.R_slice HO438.out; subst eo9) | (go_at_call 19; (with_reducible refine (barscanref47_Glyph.calls k a1 t441 t442 t443 t446 _ A4.out).mono ?_); rintro e w10 ⟨v444, rfl, ho0, hb⟩; have n0_ := Aside0.mk (Kd.R_elder' (by refine rkt ?_; exact (far3 HO438 BK440)) (Kd.R_base ho0) hb); have n1_ := Aside0.mk (Kd.R_lower (Kd.R_new' ho0 (Kd.R_lt (by refine rkt ?_; exact (far3 HO438 BK440)))) (below_size (hb1 HB GE440))); have n2_ := Aside0.mk (blk_below (g := gb440) (o := .cells #[.int .i64 t434, .int .i64 t435, .slice Ao9 t436.length co9] 24 (0, 0)) (by refine bkt ?_; refine blk_put (cs := #[.int .i64 t434, .int .i64 t435, .slice none 0 0]) ?_ 2 _ rfl; refine bkt ?_; refine blk_put (cs := #[.int .i64 t434, .int .i64 0, .slice none 0 0]) ?_ 1 _ rfl; refine bkt ?_; refine blk_put (cs := #[.int .i64 0, .int .i64 0, .slice none 0 0]) ?_ 0 _ rfl; refine bkt ?_; exact BK440.out) hb); have n3_ := Aside0.mk (below_step (hb1 HB GE440) hb); clear HO438; clear BK440; clear HB; have HO438 := n0_; have HO445 := n1_; have BK440 := n2_; have HB := n3_; clear n0_ n1_ n2_ n3_; (try clear hb); (try clear hb2); (try clear hk); (try clear hi); (try clear ho0)) | ((with_reducible refine gate_dst (N := 8) rfl ?_); refine box_event ?hg (N := 8) ?hd (cs := #[.int .i64 0, .int .i64 0, .slice none 0 0]) (t := 24) ?hr ?_; (case hd => rfl); (case hg => rfl); (case hr => first | (go_simp; done) | (go_simp; rfl)); intro gb447 hg w11 hbox hb; have n0_ := Aside0.mk (Kd.R_below (rkx HO438) hb); have n1_ := Aside0.mk (Kd.R_below (rkx HO445) hb); have n2_ := Aside0.mk (blk_below (bkx BK440) hb); have n3_ := Aside0.mk (below_step (hb1 HB GE440) hb); have n4_ := Aside0.mk (hbox); have n5_ := Aside0.mk ((by rw [hg]; exact (below_size (hb1 HB GE440)) : w.heap.size ≤ gb447)); have n6_ := Aside0.mk ((by rw [hg]; exact (below_size (hb1 HB GE440)) : w.heap.size ≤ gb447)); have n7_ := Aside0.mk (nel hg BK440 : gb440 ≠ gb447); have n8_ := Aside0.mk (neg hg BK440 : gb447 ≠ gb440); clear HO438; clear HO445; clear BK440; clear HB; have HO438 := n0_; have HO445 := n1_; have BK440 := n2_; have HB := n3_; have BK447 := n4_; have GW447 := n5_; have GE447 := n6_; have NB440_447 := n7_; have NB447_440 := n8_; clear n0_ n1_ n2_ n3_ n4_ n5_ n6_ n7_ n8_; clear hb hbox hg; have hnb12 := NB447_440.out; have hnc12 := NB440_447.out; have hcz13_0 : w11.cell? ⟨gb447, 0, none⟩ = some (.int .i64 0) := (blk_cell BK447.out 0).trans rfl; have hcz13_1 : w11.cell? ⟨gb447, 1, none⟩ = some (.int .i64 0) := (blk_cell BK447.out 1).trans rfl; have hcz13_2 : w11.cell? ⟨gb447, 2, none⟩ = some (.slice none 0 0) := (blk_cell BK447.out 2).trans rfl; have hfz13_0 := blk_frozen BK447.out 0; have hfz13_1 := blk_frozen BK447.out 1; have hfz13_2 := blk_frozen BK447.out 2; obtain ⟨Ao14, co14, eo14⟩ := Kd.R_slice HO445.out; subst eo14))
  repeat (go_quiet (first | (go_at_call 19; (with_reducible refine (barscanref47_Glyph.calls k a0 t434 t435 t436 t439 _ A3.out).mono ?_); rintro e w6 ⟨v437, rfl, ho0, hb⟩; have n0_ := Aside0.mk (Kd.R_lower ho0 (below_size (hb0 HB))); have n1_ := Aside0.mk (below_step (hb0 HB) hb); clear HB; have HO438 := n0_; have HB := n1_; clear n0_ n1_; (try clear hb); (try clear hb2); (try clear hk); (try clear hi); (try clear ho0)) | ((with_reducible refine gate_dst (N := 6) rfl ?_); refine box_event ?hg (N := 6) ?hd (cs := #[.int .i64 0, .int .i64 0, .slice none 0 0]) (t := 24) ?hr ?_; (case hd => rfl); (case hg => rfl); (case hr => first | (go_simp; done) | (go_simp; rfl)); intro gb440 hg w7 hbox hb; have n0_ := Aside0.mk (Kd.R_below (rkx HO438) hb); have n1_ := Aside0.mk (below_step (hb0 HB) hb); have n2_ := Aside0.mk (hbox); have n3_ := Aside0.mk ((by rw [hg]; exact (below_size (hb0 HB)) : w.heap.size ≤ gb440)); have n4_ := Aside0.mk ((by rw [hg]; exact (below_size (hb0 HB)) : w.heap.size ≤ gb440)); clear HO438; clear HB; have HO438 := n0_; have HB := n1_; have BK440 := n2_; have GW440 := n3_; have GE440 := n4_; clear n0_ n1_ n2_ n3_ n4_; clear hb hbox hg; have hcz8_0 : w7.cell? ⟨gb440, 0, none⟩ = some (.int .i64 0) := (blk_cell BK440.out 0).trans rfl; have hcz8_1 : w7.cell? ⟨gb440, 1, none⟩ = some (.int .i64 0) := (blk_cell BK440.out 1).trans rfl; have hcz8_2 : w7.cell? ⟨gb440, 2, none⟩ = some (.slice none 0 0) := (blk_cell BK440.out 2).trans rfl; have hfz8_0 := blk_frozen BK440.out 0; have hfz8_1 := blk_frozen BK440.out 1; have hfz8_2 := blk_frozen BK440.out 2; obtain ⟨Ao9, co9, eo9⟩ := Kd.R_slice HO438.out; subst eo9) | (go_at_call 19; (with_reducible refine (barscanref47_Glyph.calls k a1 t441 t442 t443 t446 _ A4.out).mono ?_); rintro e w10 ⟨v444, rfl, ho0, hb⟩; have n0_ := Aside0.mk (Kd.R_elder' (by refine rkt ?_; exact (far3 HO438 BK440)) (Kd.R_base ho0) hb); have n1_ := Aside0.mk (Kd.R_lower (Kd.R_new' ho0 (Kd.R_lt (by refine rkt ?_; exact (far3 HO438 BK440)))) (below_size (hb1 HB GE440))); have n2_ := Aside0.mk (blk_below (g := gb440) (o := .cells #[.int .i64 t434, .int .i64 t435, .slice Ao9 t436.length co9] 24 (0, 0)) (by refine bkt ?_; refine blk_put (cs := #[.int .i64 t434, .int .i64 t435, .slice none 0 0]) ?_ 2 _ rfl; refine bkt ?_; refine blk_put (cs := #[.int .i64 t434, .int .i64 0, .slice none 0 0]) ?_ 1 _ rfl; refine bkt ?_; refine blk_put (cs := #[.int .i64 0, .int .i64 0, .slice none 0 0]) ?_ 0 _ rfl; refine bkt ?_; exact BK440.out) hb); have n3_ := Aside0.mk (below_step (hb1 HB GE440) hb); clear HO438; clear BK440; clear HB; have HO438 := n0_; have HO445 := n1_; have BK440 := n2_; have HB := n3_; clear n0_ n1_ n2_ n3_; (try clear hb); (try clear hb2); (try clear hk); (try clear hi); (try clear ho0)) | ((with_reducible refine gate_dst (N := 8) rfl ?_); refine box_event ?hg (N := 8) ?hd (cs := #[.int .i64 0, .int .i64 0, .slice none 0 0]) (t := 24) ?hr ?_; (case hd => rfl); (case hg => rfl); (case hr => first | (go_simp; done) | (go_simp; rfl)); intro gb447 hg w11 hbox hb; have n0_ := Aside0.mk (Kd.R_below (rkx HO438) hb); have n1_ := Aside0.mk (Kd.R_below (rkx HO445) hb); have n2_ := Aside0.mk (blk_below (bkx BK440) hb); have n3_ := Aside0.mk (below_step (hb1 HB GE440) hb); have n4_ := Aside0.mk (hbox); have n5_ := Aside0.mk ((by rw [hg]; exact (below_size (hb1 HB GE440)) : w.heap.size ≤ gb447)); have n6_ := Aside0.mk ((by rw [hg]; exact (below_size (hb1 HB GE440)) : w.heap.size ≤ gb447)); have n7_ := Aside0.mk (nel hg BK440 : gb440 ≠ gb447); have n8_ := Aside0.mk (neg hg BK440 : gb447 ≠ gb440); clear HO438; clear HO445; clear BK440; clear HB; have HO438 := n0_; have HO445 := n1_; have BK440 := n2_; have HB := n3_; have BK447 := n4_; have GW447 := n5_; have GE447 := n6_; have NB440_447 := n7_; have NB447_440 := n8_; clear n0_ n1_ n2_ n3_ n4_ n5_ n6_ n7_ n8_; clear hb hbox hg; have hnb12 := NB447_440.out; have hnc12 := NB440_447.out; have hcz13_0 : w11.cell? ⟨gb447, 0, none⟩ = some (.int .i64 0) := (blk_cell BK447.out 0).trans rfl; have hcz13_1 : w11.cell? ⟨gb447, 1, none⟩ = some (.int .i64 0) := (blk_cell BK447.out 1).trans rfl; have hcz13_2 : w11.cell? ⟨gb447, 2, none⟩ = some (.slice none 0 0) := (blk_cell BK447.out 2).trans rfl; have hfz13_0 := blk_frozen BK447.out 0; have hfz13_1 := blk_frozen BK447.out 1; have hfz13_2 := blk_frozen BK447.out 2; obtain ⟨Ao14, co14, eo14⟩ := Kd.R_slice HO445.out; subst eo14)); go_upto_region 3 with (first | (go_at_call 19; (with_reducible refine (barscanref47_Glyph.calls k a0 t434 t435 t436 t439 _ A3.out).mono ?_); rintro e w6 ⟨v437, rfl, ho0, hb⟩; have n0_ := Aside0.mk (Kd.R_lower ho0 (below_size (hb0 HB))); have n1_ := Aside0.mk (below_step (hb0 HB) hb); clear HB; have HO438 := n0_; have HB := n1_; clear n0_ n1_; (try clear hb); (try clear hb2); (try clear hk); (try clear hi); (try clear ho0)) | ((with_reducible refine gate_dst (N := 6) rfl ?_); refine box_event ?hg (N := 6) ?hd (cs := #[.int .i64 0, .int .i64 0, .slice none 0 0]) (t := 24) ?hr ?_; (case hd => rfl); (case hg => rfl); (case hr => first | (go_simp; done) | (go_simp; rfl)); intro gb440 hg w7 hbox hb; have n0_ := Aside0.mk (Kd.R_below (rkx HO438) hb); have n1_ := Aside0.mk (below_step (hb0 HB) hb); have n2_ := Aside0.mk (hbox); have n3_ := Aside0.mk ((by rw [hg]; exact (below_size (hb0 HB)) : w.heap.size ≤ gb440)); have n4_ := Aside0.mk ((by rw [hg]; exact (below_size (hb0 HB)) : w.heap.size ≤ gb440)); clear HO438; clear HB; have HO438 := n0_; have HB := n1_; have BK440 := n2_; have GW440 := n3_; have GE440 := n4_; clear n0_ n1_ n2_ n3_ n4_; clear hb hbox hg; have hcz8_0 : w7.cell? ⟨gb440, 0, none⟩ = some (.int .i64 0) := (blk_cell BK440.out 0).trans rfl; have hcz8_1 : w7.cell? ⟨gb440, 1, none⟩ = some (.int .i64 0) := (blk_cell BK440.out 1).trans rfl; have hcz8_2 : w7.cell? ⟨gb440, 2, none⟩ = some (.slice none 0 0) := (blk_cell BK440.out 2).trans rfl; have hfz8_0 := blk_frozen BK440.out 0; have hfz8_1 := blk_frozen BK440.out 1; have hfz8_2 := blk_frozen BK440.out 2; obtain ⟨Ao9, co9, eo9⟩ := Kd.R_slice HO438.out; subst eo9) | (go_at_call 19; (with_reducible refine (barscanref47_Glyph.calls k a1 t441 t442 t443 t446 _ A4.out).mono ?_); rintro e w10 ⟨v444, rfl, ho0, hb⟩; have n0_ := Aside0.mk (Kd.R_elder' (by refine rkt ?_; exact (far3 HO438 BK440)) (Kd.R_base ho0) hb); have n1_ := Aside0.mk (Kd.R_lower (Kd.R_new' ho0 (Kd.R_lt (by refine rkt ?_; exact (far3 HO438 BK440)))) (below_size (hb1 HB GE440))); have n2_ := Aside0.mk (blk_below (g := gb440) (o := .cells #[.int .i64 t434, .int .i64 t435, .slice Ao9 t436.length co9] 24 (0, 0)) (by refine bkt ?_; refine blk_put (cs := #[.int .i64 t434, .int .i64 t435, .slice none 0 0]) ?_ 2 _ rfl; refine bkt ?_; refine blk_put (cs := #[.int .i64 t434, .int .i64 0, .slice none 0 0]) ?_ 1 _ rfl; refine bkt ?_; refine blk_put (cs := #[.int .i64 0, .int .i64 0, .slice none 0 0]) ?_ 0 _ rfl; refine bkt ?_; exact BK440.out) hb); have n3_ := Aside0.mk (below_step (hb1 HB GE440) hb); clear HO438; clear BK440; clear HB; have HO438 := n0_; have HO445 := n1_; have BK440 := n2_; have HB := n3_; clear n0_ n1_ n2_ n3_; (try clear hb); (try clear hb2); (try clear hk); (try clear hi); (try clear ho0)) | ((with_reducible refine gate_dst (N := 8) rfl ?_); refine box_event ?hg (N := 8) ?hd (cs := #[.int .i64 0, .int .i64 0, .slice none 0 0]) (t := 24) ?hr ?_; (case hd => rfl); (case hg => rfl); (case hr => first | (go_simp; done) | (go_simp; rfl)); intro gb447 hg w11 hbox hb; have n0_ := Aside0.mk (Kd.R_below (rkx HO438) hb); have n1_ := Aside0.mk (Kd.R_below (rkx HO445) hb); have n2_ := Aside0.mk (blk_below (bkx BK440) hb); have n3_ := Aside0.mk (below_step (hb1 HB GE440) hb); have n4_ := Aside0.mk (hbox); have n5_ := Aside0.mk ((by rw [hg]; exact (below_size (hb1 HB GE440)) : w.heap.size ≤ gb447)); have n6_ := Aside0.mk ((by rw [hg]; exact (below_size (hb1 HB GE440)) : w.heap.size ≤ gb447)); have n7_ := Aside0.mk (nel hg BK440 : gb440 ≠ gb447); have n8_ := Aside0.mk (neg hg BK440 : gb447 ≠ gb440); clear HO438; clear HO445; clear BK440; clear HB; have HO438 := n0_; have HO445 := n1_; have BK440 := n2_; have HB := n3_; have BK447 := n4_; have GW447 := n5_; have GE447 := n6_; have NB440_447 := n7_; have NB447_440 := n8_; clear n0_ n1_ n2_ n3_ n4_ n5_ n6_ n7_ n8_; clear hb hbox hg; have hnb12 := NB447_440.out; have hnc12 := NB440_447.out; have hcz13_0 : w11.cell? ⟨gb447, 0, none⟩ = some (.int .i64 0) := (blk_cell BK447.out 0).trans rfl; have hcz13_1 : w11.cell? ⟨gb447, 1, none⟩ = some (.int .i64 0) := (blk_cell BK447.out 1).trans rfl; have hcz13_2 : w11.cell? ⟨gb447, 2, none⟩ = some (.slice none 0 0) := (blk_cell BK447.out 2).trans rfl; have hfz13_0 := blk_frozen BK447.out 0; have hfz13_1 := blk_frozen BK447.out 1; have hfz13_2 := blk_frozen BK447.out 2; obtain ⟨Ao14, co14, eo14⟩ := Kd.R_slice HO445.out; subst eo14)))
  (try simp only [Act.put, List.setIfInBounds_toArray, List.set_cons_zero, List.set_cons_succ])
  go_cut [27] (fun v27 wc => ∃ (kq : Nat) (x27_4 : Bool), v27 = .bool x27_4 ∧ Aside0 (barscanref47_Distance.j0 kq x27_4 t434 t435 t436 t441 t442 t443 = some (r1, r2)) ∧ Aside0 (kq ≤ k) ∧ Aside0 (Kd.R Kd.bool 4 wc w.heap.size (fun k_ => some k_ ≠ ((.slice Ao14 t443.length co14) : Value).ownBlock) (.slice Ao9 t436.length co9) t436) ∧ Aside0 (Kd.R Kd.bool 4 wc w.heap.size (fun k_ => some k_ ≠ ((.slice Ao9 t436.length co9) : Value).ownBlock) (.slice Ao14 t443.length co14) t443) ∧ Aside0 (wc.heap[gb440]? = some (.cells #[.int .i64 t434, .int .i64 t435, (.slice Ao9 t436.length co9)] 24 (0, 0))) ∧ Aside0 (wc.heap[gb447]? = some (.cells #[.int .i64 t441, .int .i64 t442, (.slice Ao14 t443.length co14)] 24 (0, 0))) ∧ Aside0 (Below w.heap.size w wc))
  case first =>
    have H := HC5.out
    clear HC5
    by_cases c15 : t439 = 0
    · rw [if_pos c15] at H
      have c15b0 : (t439 == 0) = true := beq_iff_eq.mpr c15
      have c15b1 : (t439 != 0) = false := bne_eq_false_iff_eq.mpr c15
      clear c15
      (first | rw [c15b0] | (simp only [i64_w, i32_w]; rw [c15b0]) | skip)
      have H' := Aside0.mk H
      clear H
      go_wp2
      repeat (go_quiet (fail); try go_wp2)
      go_meet
      case rel => exact ⟨_, ((t446 != 0)), (by first | rfl | (simp; done) | (simp [*]; done)), H', ⟨by first | omega | exact Nat.le_refl _⟩, ⟨by refine rkt ?_; exact Kd.R_mono (Kd.R_far (p := ⟨gb447, 2, none⟩) (Kd.R_far (p := ⟨gb447, 1, none⟩) (Kd.R_far (p := ⟨gb447, 0, none⟩) (Kd.R_types HO438.out BK447.out (by decide)) (fun _ hk => hk.2) (.int .i64 t441)) (fun _ hk => hk.2) (.int .i64 t442)) (fun _ hk => hk.2) (.slice Ao14 t443.length co14)) (fun _ hk => hk.1.2)⟩, ⟨by refine rkt ?_; exact Kd.R_mono (Kd.R_far (p := ⟨gb447, 2, none⟩) (Kd.R_far (p := ⟨gb447, 1, none⟩) (Kd.R_far (p := ⟨gb447, 0, none⟩) (Kd.R_types HO445.out BK447.out (by decide)) (fun _ hk => hk.2) (.int .i64 t441)) (fun _ hk => hk.2) (.int .i64 t442)) (fun _ hk => hk.2) (.slice Ao14 t443.length co14)) (fun _ hk => hk.1.2)⟩, ⟨bky BK440 NB440_447⟩, ⟨by refine bkt ?_; refine blk_put (cs := #[.int .i64 t441, .int .i64 t442, .slice none 0 0]) ?_ 2 _ rfl; refine bkt ?_; refine blk_put (cs := #[.int .i64 t441, .int .i64 0, .slice none 0 0]) ?_ 1 _ rfl; refine bkt ?_; refine blk_put (cs := #[.int .i64 0, .int .i64 0, .slice none 0 0]) ?_ 0 _ rfl; refine bkt ?_; exact BK447.out⟩, ⟨hb2 HB GE440 GE447⟩⟩
    · rw [if_neg c15] at H
      have c15b0 : (t439 == 0) = false := beq_eq_false_iff_ne.mpr c15
      have c15b1 : (t439 != 0) = true := bne_iff_ne.mpr c15
      (first | rw [c15b0] | (simp only [i64_w, i32_w]; rw [c15b0]) | skip)
      have H' := Aside0.mk H
      clear H
      go_wp2
      repeat (go_quiet (fail); try go_wp2)
      go_meet
      case rel => exact ⟨_, (true), (by first | rfl | (simp; done) | (simp [*]; done)), H', ⟨by first | omega | exact Nat.le_refl _⟩, ⟨by refine rkt ?_; exact Kd.R_mono (Kd.R_far (p := ⟨gb447, 2, none⟩) (Kd.R_far (p := ⟨gb447, 1, none⟩) (Kd.R_far (p := ⟨gb447, 0, none⟩) (Kd.R_types HO438.out BK447.out (by decide)) (fun _ hk => hk.2) (.int .i64 t441)) (fun _ hk => hk.2) (.int .i64 t442)) (fun _ hk => hk.2) (.slice Ao14 t443.length co14)) (fun _ hk => hk.1.2)⟩, ⟨by refine rkt ?_; exact Kd.R_mono (Kd.R_far (p := ⟨gb447, 2, none⟩) (Kd.R_far (p := ⟨gb447, 1, none⟩) (Kd.R_far (p := ⟨gb447, 0, none⟩) (Kd.R_types HO445.out BK447.out (by decide)) (fun _ hk => hk.2) (.int .i64 t441)) (fun _ hk => hk.2) (.int .i64 t442)) (fun _ hk => hk.2) (.slice Ao14 t443.length co14)) (fun _ hk => hk.1.2)⟩, ⟨bky BK440 NB440_447⟩, ⟨by refine bkt ?_; refine blk_put (cs := #[.int .i64 t441, .int .i64 t442, .slice none 0 0]) ?_ 2 _ rfl; refine bkt ?_; refine blk_put (cs := #[.int .i64 t441, .int .i64 0, .slice none 0 0]) ?_ 1 _ rfl; refine bkt ?_; refine blk_put (cs := #[.int .i64 0, .int .i64 0, .slice none 0 0]) ?_ 0 _ rfl; refine bkt ?_; exact BK447.out⟩, ⟨hb2 HB GE440 GE447⟩⟩
  case rest =>
    clear HC5
    try clear c1
    try clear c2
    try clear p2
    try clear c12
    try clear c15
    try clear c15b0
    try clear c15b1
    try clear hcz13_0
    try clear hcz13_1
    try clear hcz13_2
    try clear hcz8_0
    try clear hcz8_1
    try clear hcz8_2
    try clear hfz13_0
    try clear hfz13_1
    try clear hfz13_2
    try clear hfz8_0
    try clear hfz8_1
    try clear hfz8_2
    obtain ⟨kq, x27_4, rfl, HA, HJ4, HO_441002, HO_448002, BK440, BK447, HB⟩ := hcut
    cases kq with
    | zero => exact absurd HA.out (by simp [barscanref47_Distance.j0])
    | succ kj4 =>
      have H := HA.out
      clear HA
      simp only [barscanref47_Distance.j0] at H
      by_cases c16 : x27_4 = true
      · subst c16
        have H1 : (some (0, 6)) = some (r1, r2) := by rw [if_pos rfl] at H; exact H
        clear H
        have H := H1
        clear H1
        simp only [Option.some.injEq, Prod.mk.injEq] at H
        obtain ⟨rfl, rfl⟩ := H
        go_wp2
        repeat (go_quiet (fail); try go_wp2)
        go_ret2
        exact ⟨by first | rfl | (simp [errW_none, errW_some] <;> rfl) | (simp [*, errW_none, errW_some] <;> rfl), by repeat (first | (with_reducible first | exact HB.out | apply below_alloc | apply pw_below_drewN | apply below_drew1 | refine below_set ?_ GE440.out | refine below_set ?_ GE447.out) | exact HB.out)⟩
      · replace c16 := Bool.eq_false_iff.mpr c16
        subst c16
        have H1 : (barscanref47_Distance.l0 kj4 0 0 t434 t435 t436 t441 t442 t443) = some (r1, r2) := by rw [if_neg (show ¬ (false = true) by decide)] at H; exact H
        clear H
        have H := H1
        clear H1
        have H' := Aside0.mk H
        clear H
        go_wp2
        repeat (go_quiet (fail); try go_wp2)
        go_loopg [10, 11] kj4 (fun kq v10 v11 w' => ∃ (x10_2 : Int) (x11_2 : Int), v10 = .int .i64 x10_2 ∧ v11 = .int .i64 x11_2 ∧ Aside0 (barscanref47_Distance.l0 kq x10_2 x11_2 t434 t435 t436 t441 t442 t443 = some (r1, r2)) ∧ Aside0 (kq ≤ kj4) ∧ Aside0 (Kd.R Kd.bool 4 w' w.heap.size (fun k_ => some k_ ≠ ((.slice Ao14 t443.length co14) : Value).ownBlock) (.slice Ao9 t436.length co9) t436) ∧ Aside0 (Kd.R Kd.bool 4 w' w.heap.size (fun k_ => some k_ ≠ ((.slice Ao9 t436.length co9) : Value).ownBlock) (.slice Ao14 t443.length co14) t443) ∧ Aside0 (w'.heap[gb440]? = some (.cells #[.int .i64 t434, .int .i64 t435, (.slice Ao9 t436.length co9)] 24 (0, 0))) ∧ Aside0 (w'.heap[gb447]? = some (.cells #[.int .i64 t441, .int .i64 t442, (.slice Ao14 t443.length co14)] 24 (0, 0))) ∧ Aside0 (Below w.heap.size w w'))
        case atStart => exact ⟨(0), (0), (by first | rfl | (simp; done) | (simp [*]; done)), (by first | rfl | (simp; done) | (simp [*]; done)), H', ⟨Nat.le_refl _⟩, ⟨rkx HO_441002⟩, ⟨rkx HO_448002⟩, ⟨bkx BK440⟩, ⟨bkx BK447⟩, ⟨hb2 HB GE440 GE447⟩⟩
        case round =>
          clear H'
          try clear c1
          try clear c2
          try clear p2
          try clear c12
          try clear c15
          try clear c15b0
          try clear c15b1
          try clear c16
          try clear hcz13_0
          try clear hcz13_1
          try clear hcz13_2
          try clear hcz8_0
          try clear hcz8_1
          try clear hcz8_2
          try clear hfz13_0
          try clear hfz13_1
          try clear hfz13_2
          try clear hfz8_0
          try clear hfz8_1
          try clear hfz8_2
          try clear p2
          obtain ⟨x10_2, x11_2, rfl, rfl, HA, HK2, HO_441002, HO_448002, BK440, BK447, HB⟩ := hrel
          cases gk with
          | zero => exact absurd HA.out (by simp [barscanref47_Distance.l0])
          | succ k2 =>
            have H := HA.out
            clear HA
            simp only [barscanref47_Distance.l0] at H
            by_cases c17 : x11_2 < 35
            · rw [if_pos c17] at H
              have c17b0 : decide (x11_2 < 35) = true := decide_eq_true c17
              clear c17
              by_cases c18 : 0 ≤ x11_2
              · rw [if_pos c18] at H
                have c18b0 : decide (0 ≤ x11_2) = true := decide_eq_true c18
                clear c18
                by_cases c19 : x11_2 < (t436.length : Int)
                · rw [if_pos c19] at H
                  have c19b0 : decide (x11_2 < (t436.length : Int)) = true := decide_eq_true c19
                  clear c19
                  by_cases c20 : x11_2 < (t443.length : Int)
                  · rw [if_pos c20] at H
                    have c20b0 : decide (x11_2 < (t443.length : Int)) = true := decide_eq_true c20
                    clear c20
                    by_cases c21 : ((rdOf false t436 x11_2) != (rdOf false t443 x11_2)) = true
                    · rw [if_pos c21] at H
                      have c21b0 : ((rdOf false t436 x11_2) != (rdOf false t443 x11_2)) = true := c21
                      (try (have c21b1 : decide ((rdOf false t436 x11_2) = (rdOf false t443 x11_2)) = false := by simpa using c21))
                      (try (have c21b2 : ((rdOf false t436 x11_2) == (rdOf false t443 x11_2)) = false := by simpa using c21))
                      (try (have c21b3 : ¬ ((rdOf false t436 x11_2) = (rdOf false t443 x11_2)) := by simpa using c21))
                      clear c21
                      have H' := Aside0.mk H
                      clear H
                      have hnb22 := NB440_447.out
                      have hnc22 := NB447_440.out
                      have hcz23_0 : wr.cell? ⟨gb440, 0, none⟩ = some (.int .i64 t434) := (blk_cell BK440.out 0).trans rfl
                      have hcz23_1 : wr.cell? ⟨gb440, 1, none⟩ = some (.int .i64 t435) := (blk_cell BK440.out 1).trans rfl
                      have hcz23_2 : wr.cell? ⟨gb440, 2, none⟩ = some (.slice Ao9 t436.length co9) := (blk_cell BK440.out 2).trans rfl
                      have hfz23_0 := blk_frozen BK440.out 0
                      have hfz23_1 := blk_frozen BK440.out 1
                      have hfz23_2 := blk_frozen BK440.out 2
                      have p448 : 0 ≤ (x11_2 : Int) := of_decide_eq_true (by first | (with_reducible assumption) | assumption)
                      have q448 : x11_2 < (t436.length : Int) := of_decide_eq_true (by first | (with_reducible assumption) | assumption)
                      obtain ⟨ad448, e448, hx448_0⟩ := Kd.at_bool (Kd.R_reads' HO_441002.out).2.2 x11_2 p448 q448
                      cases e448
                      replace p448 := eq_true p448
                      replace q448 := eq_true q448
                      have hcz24_0 : wr.cell? ⟨gb447, 0, none⟩ = some (.int .i64 t441) := (blk_cell BK447.out 0).trans rfl
                      have hcz24_1 : wr.cell? ⟨gb447, 1, none⟩ = some (.int .i64 t442) := (blk_cell BK447.out 1).trans rfl
                      have hcz24_2 : wr.cell? ⟨gb447, 2, none⟩ = some (.slice Ao14 t443.length co14) := (blk_cell BK447.out 2).trans rfl
                      have hfz24_0 := blk_frozen BK447.out 0
                      have hfz24_1 := blk_frozen BK447.out 1
                      have hfz24_2 := blk_frozen BK447.out 2
                      have p449 : 0 ≤ (x11_2 : Int) := of_decide_eq_true (by first | (with_reducible assumption) | assumption)
                      have q449 : x11_2 < (t443.length : Int) := of_decide_eq_true (by first | (with_reducible assumption) | assumption)
                      obtain ⟨ad449, e449, hx449_0⟩ := Kd.at_bool (Kd.R_reads' HO_448002.out).2.2 x11_2 p449 q449
                      cases e449
                      replace p449 := eq_true p449
                      replace q449 := eq_true q449
                      go_wp2
                      repeat (go_quiet (fail); try go_wp2)
                      go_roundg k2
                      case measure => have := HJ4.out; have := HK2.out; omega
                      case rel => exact ⟨(wrap64 (x10_2 + 1)), (wrap64 (x11_2 + 1)), (by first | rfl | (simp; done) | (simp [*]; done)), (by first | rfl | (simp; done) | (simp [*]; done)), H', ⟨by have := HJ4.out; have := HK2.out; omega⟩, ⟨rkx HO_441002⟩, ⟨rkx HO_448002⟩, ⟨bkx BK440⟩, ⟨bkx BK447⟩, ⟨hb2 HB GE440 GE447⟩⟩
                    · rw [if_neg c21] at H
                      have c21b0 : ((rdOf false t436 x11_2) != (rdOf false t443 x11_2)) = false := by simpa using c21
                      (try (have c21b1 : decide ((rdOf false t436 x11_2) = (rdOf false t443 x11_2)) = true := by simpa using c21))
                      (try (have c21b2 : ((rdOf false t436 x11_2) == (rdOf false t443 x11_2)) = true := by simpa using c21))
                      clear c21
                      have H' := Aside0.mk H
                      clear H
                      have hnb25 := NB440_447.out
                      have hnc25 := NB447_440.out
                      have hcz26_0 : wr.cell? ⟨gb440, 0, none⟩ = some (.int .i64 t434) := (blk_cell BK440.out 0).trans rfl
                      have hcz26_1 : wr.cell? ⟨gb440, 1, none⟩ = some (.int .i64 t435) := (blk_cell BK440.out 1).trans rfl
                      have hcz26_2 : wr.cell? ⟨gb440, 2, none⟩ = some (.slice Ao9 t436.length co9) := (blk_cell BK440.out 2).trans rfl
                      have hfz26_0 := blk_frozen BK440.out 0
                      have hfz26_1 := blk_frozen BK440.out 1
                      have hfz26_2 := blk_frozen BK440.out 2
                      have p448 : 0 ≤ (x11_2 : Int) := of_decide_eq_true (by first | (with_reducible assumption) | assumption)
                      have q448 : x11_2 < (t436.length : Int) := of_decide_eq_true (by first | (with_reducible assumption) | assumption)
                      obtain ⟨ad448, e448, hx448_0⟩ := Kd.at_bool (Kd.R_reads' HO_441002.out).2.2 x11_2 p448 q448
                      cases e448
                      replace p448 := eq_true p448
                      replace q448 := eq_true q448
                      have hcz27_0 : wr.cell? ⟨gb447, 0, none⟩ = some (.int .i64 t441) := (blk_cell BK447.out 0).trans rfl
                      have hcz27_1 : wr.cell? ⟨gb447, 1, none⟩ = some (.int .i64 t442) := (blk_cell BK447.out 1).trans rfl
                      have hcz27_2 : wr.cell? ⟨gb447, 2, none⟩ = some (.slice Ao14 t443.length co14) := (blk_cell BK447.out 2).trans rfl
                      have hfz27_0 := blk_frozen BK447.out 0
                      have hfz27_1 := blk_frozen BK447.out 1
                      have hfz27_2 := blk_frozen BK447.out 2
                      have p449 : 0 ≤ (x11_2 : Int) := of_decide_eq_true (by first | (with_reducible assumption) | assumption)
                      have q449 : x11_2 < (t443.length : Int) := of_decide_eq_true (by first | (with_reducible assumption) | assumption)
                      obtain ⟨ad449, e449, hx449_0⟩ := Kd.at_bool (Kd.R_reads' HO_448002.out).2.2 x11_2 p449 q449
                      cases e449
                      replace p449 := eq_true p449
                      replace q449 := eq_true q449
                      go_wp2
                      repeat (go_quiet (fail); try go_wp2)
                      go_roundg k2
                      case measure => have := HJ4.out; have := HK2.out; omega
                      case rel => exact ⟨(x10_2), (wrap64 (x11_2 + 1)), (by first | rfl | (simp; done) | (simp [*]; done)), (by first | rfl | (simp; done) | (simp [*]; done)), H', ⟨by have := HJ4.out; have := HK2.out; omega⟩, ⟨rkx HO_441002⟩, ⟨rkx HO_448002⟩, ⟨bkx BK440⟩, ⟨bkx BK447⟩, ⟨hb2 HB GE440 GE447⟩⟩
                  · rw [if_neg c20] at H
                    exact absurd H (by simp)
                · rw [if_neg c19] at H
                  exact absurd H (by simp)
              · rw [if_neg c18] at H
                exact absurd H (by simp)
            · rw [if_neg c17] at H
              have c17b0 : decide (x11_2 < 35) = false := decide_eq_false c17
              clear c17
              simp only [Option.some.injEq, Prod.mk.injEq] at H
              obtain ⟨rfl, rfl⟩ := H
              go_wp2
              repeat (go_quiet (fail); try go_wp2)
              go_ret2
              exact ⟨by first | rfl | (simp [errW_none, errW_some] <;> rfl) | (simp [*, errW_none, errW_some] <;> rfl), by repeat (first | (with_reducible first | exact HB.out | apply below_alloc | apply pw_below_drewN | apply below_drew1 | refine below_set ?_ GE440.out | refine below_set ?_ GE447.out) | exact HB.out)⟩

/-! ### barscanref47_Chars: function 22 -/
def barscanref47_Chars.l0 : Nat → List Int → Int → Option (List Int)
  | 0, _, _ => none
  | k + 1, x1, x2 => if x2 < 256 then ((barscanref47_rows.f ((x2) % 256)).bind fun t450 => (if t450.toList = ([] : List UInt8) then (barscanref47_Chars.l0 k x1 (wrap64 (x2 + 1))) else (if x1.length < 140737488355328 then (barscanref47_Chars.l0 k (x1 ++ [(x2) % 256]) (wrap64 (x2 + 1))) else (none)))) else (some x1)
def barscanref47_Chars.f (k : Nat)  : Option (List Int) := barscanref47_Chars.l0 k ([] : List Int) 0
theorem barscanref47_Chars.mono_l : ∀ k, (∀ y0 y1, LeO (barscanref47_Chars.l0 k y0 y1) (barscanref47_Chars.l0 (k + 1) y0 y1))
  | 0 => fun _ _ r h => by simp [barscanref47_Chars.l0] at h
  | k + 1 => by
    have ih0 := barscanref47_Chars.mono_l k
    · intro y0 y1
      unfold barscanref47_Chars.l0
      repeat' first
      | (with_reducible exact ih0 _ _)
      | (with_reducible exact LeO.refl _)
      | (with_reducible exact LeO.none _)
      | (with_reducible refine LeO.ite ?_ ?_)
      | (with_reducible refine LeO.bind ?_ (fun _ => ?_))
      | exact ih0 _ _
      | exact LeO.none _
      | refine LeO.ite ?_ ?_
      | refine LeO.bind ?_ (fun _ => ?_)
theorem barscanref47_Chars.mono : ∀ k, LeO (barscanref47_Chars.f k ) (barscanref47_Chars.f (k + 1) ) := by
  intro  k
  have ih0 := barscanref47_Chars.mono_l k
  unfold barscanref47_Chars.f
  repeat' first
      | (with_reducible exact ih0 _ _)
      | (with_reducible exact LeO.refl _)
      | (with_reducible exact LeO.none _)
      | (with_reducible refine LeO.ite ?_ ?_)
      | (with_reducible refine LeO.bind ?_ (fun _ => ?_))
      | exact ih0 _ _
      | exact LeO.none _
      | refine LeO.ite ?_ ?_
      | refine LeO.bind ?_ (fun _ => ?_)
set_option maxHeartbeats 8000000 in
set_option maxRecDepth 100000 in
theorem barscanref47_Chars.calls (k : Nat)  (r : List Int) (w : World) (h : barscanref47_Chars.f k  = some r) :
    Calls Try.prog 22 #[] w fun e w' => ∃ v0_ : Value, e = .returned (v0_) ∧ Kd.R (Kd.int .u8) 5 w' w.heap.size (fun _ => True) v0_ r ∧ Below w.heap.size w w' := by
  have HB := Aside0.mk (Below.refl w.heap.size w)
  have H : (barscanref47_Chars.l0 k ([] : List Int) 0) = some r := h
  clear h
  have H' := Aside0.mk H
  clear H
  go_enter Try.func22, Try.ntmps22
  go_wp2
  go_loopg [1, 2] k (fun kq v1 v2 w' => ∃ (x1_1 : List Int) (x2_1 : Int), v2 = .int .i64 x2_1 ∧ Aside0 (barscanref47_Chars.l0 kq x1_1 x2_1 = some r) ∧ Aside0 (kq ≤ k) ∧ Aside0 (Kd.R (Kd.int .u8) 5 w' w.heap.size (fun _ => True) v1 x1_1) ∧ Aside0 (Below w.heap.size w w'))
  case atStart => exact ⟨(([] : List Int)), (0), (by first | rfl | (simp; done) | (simp [*]; done)), H', ⟨Nat.le_refl _⟩, ⟨by first | exact Kd.R_nil _ _ _ _ _ | exact Kd.N_nil _ _ _ _ _ | exact Kd.V_nil _ _ _ _ _ | exact Kd.Q_nil _ _ _ _ _ | exact Kd.S_nil _ _ _ _ _⟩, ⟨hb0 HB⟩⟩
  case round =>
    clear H'
    obtain ⟨x1_1, x2_1, rfl, HA, HK1, HO_1, HB⟩ := hrel
    cases gk with
    | zero => exact absurd HA.out (by simp [barscanref47_Chars.l0])
    | succ k1 =>
      have H := HA.out
      clear HA
      simp only [barscanref47_Chars.l0] at H
      by_cases c1 : x2_1 < 256
      · rw [if_pos c1] at H
        have c1b0 : decide (x2_1 < 256) = true := decide_eq_true c1
        clear c1
        replace H := Option.bind_eq_some_iff.mp H
        obtain ⟨t450, A20, H⟩ := H
        replace H : (if t450.toList = ([] : List UInt8) then (barscanref47_Chars.l0 k1 x1_1 (wrap64 (x2_1 + 1))) else (if x1_1.length < 140737488355328 then (barscanref47_Chars.l0 k1 (x1_1 ++ [(x2_1) % 256]) (wrap64 (x2_1 + 1))) else (none))) = some r := H
        have A2 := Aside0.mk A20
        clear A20
        by_cases c3 : t450.toList = ([] : List UInt8)
        · rw [if_pos c3] at H
          have c3b0 : (t450.toList == ([] : List UInt8)) = true := beq_iff_eq.mpr c3
          have c3b1 : (t450.toList != ([] : List UInt8)) = false := bne_eq_false_iff_eq.mpr c3
          clear c3
          have H' := Aside0.mk H
          clear H
          go_wp2_with (first | ((with_reducible refine gate_callee (f := 30) rfl ?_); refine goesL_ (some 9) rfl rfl Try.func30 (by kernel_rfl) rfl #[.int .u8 ((x2_1) % 256)] rfl mapx ?_; (with_reducible refine (barscanref47_rows.calls ((x2_1) % 256) t450 _ A2.out).mono ?_); rintro e w' ⟨rfl, ⟨nd, rfl⟩⟩; refine ⟨_, rfl, ?_⟩))
          go_roundg k1
          case measure => have := HK1.out; omega
          case rel => exact ⟨(x1_1), (wrap64 (x2_1 + 1)), (by first | rfl | (simp; done) | (simp [*]; done)), H', ⟨by have := HK1.out; omega⟩, ⟨rkx HO_1⟩, ⟨hb0 HB⟩⟩
        · rw [if_neg c3] at H
          have c3b0 : (t450.toList == ([] : List UInt8)) = false := beq_eq_false_iff_ne.mpr c3
          have c3b1 : (t450.toList != ([] : List UInt8)) = true := bne_iff_ne.mpr c3
          by_cases c4 : x1_1.length < 140737488355328
          · rw [if_pos c4] at H
            have LMc4 := Aside0.mk c4
            clear c4
            obtain ⟨y451, hy451⟩ : ∃ y_ : List Int, y_ = (x1_1 ++ [(x2_1) % 256]) := ⟨_, rfl⟩
            replace H : (barscanref47_Chars.l0 k1 y451 (wrap64 (x2_1 + 1))) = some r := by first | (rw [hy451]; with_reducible exact H) | (have H2_ := (Option.bind_some _ _).symm.trans H; rw [hy451]; with_reducible exact H2_) | (have H2_ := (Option.bind_some _ _).symm.trans H; with_reducible exact H2_) | with_reducible exact H | (rw [hy451]; exact H) | exact H
            have Ny451 := Aside0.mk hy451
            clear hy451
            have H' := Aside0.mk H
            clear H
            go_wp2_with (first | ((with_reducible refine gate_callee (f := 30) rfl ?_); refine goesL_ (some 9) rfl rfl Try.func30 (by kernel_rfl) rfl #[.int .u8 ((x2_1) % 256)] rfl mapx ?_; (with_reducible refine (barscanref47_rows.calls ((x2_1) % 256) t450 _ A2.out).mono ?_); rintro e w' ⟨rfl, ⟨nd, rfl⟩⟩; refine ⟨_, rfl, ?_⟩) | ((with_reducible refine gate_builtin (b := .append) (xs := #[.tmp 11, .tmp 14]) rfl ?_); at_builtin; refine Kd.R_append (Kd.int .u8) (w0 := w) w.heap.size rfl (.tmp 11) (.tmp 14) 41 5 (.int .u8 0) 1 rfl Try.underlying41 info5 rfl (by decide) (by omega) u1 x1_1 ((x2_1) % 256) [.int .u8 ((x2_1) % 256)] (fun _ => True) (fun _ => False) rfl rfl ?aP (fun _ hk => hk.elim) ?aF ?aO ?aB ?aS ?aL ?_; (case aP => exact rfl); (case aB => exact (hb0 HB)); (case aF => exact (fun _ _ => trivial)); (case aO => exact (rkx HO_1)); (case aS => exact (below_size (hb0 HB))); (case aL => have := LMc4.out; omega); intro v452 w5 ho hb hg hat; rw [← Ny451.out] at ho; have n0_ := Aside0.mk (hb); have n1_ := Aside0.mk (ho); clear HB; clear HO_1; have HB := n0_; have HO453 := n1_; clear n0_ n1_; clear ho hb hg hat))
            go_roundg k1
            case measure => have := HK1.out; omega
            case rel => exact ⟨(y451), (wrap64 (x2_1 + 1)), (by first | rfl | (simp; done) | (simp [*]; done)), H', ⟨by have := HK1.out; omega⟩, ⟨rkx HO453⟩, ⟨hb0 HB⟩⟩
          · rw [if_neg c4] at H
            exact absurd H (by simp)
      · rw [if_neg c1] at H
        have c1b0 : decide (x2_1 < 256) = false := decide_eq_false c1
        clear c1
        obtain rfl := Option.some.inj H
        go_wp2
        go_ret
        exact ⟨_, by first | rfl | (simp [errW_none, errW_some] <;> rfl) | (simp [*, errW_none, errW_some] <;> rfl), by refine rkt ?_; exact HO_1.out, by repeat (first | (with_reducible first | exact HB.out | apply below_alloc | apply pw_below_drewN | apply below_drew1) | exact HB.out)⟩

end Go.Proofs.Ytghfcdgdbdeomaa.PR
