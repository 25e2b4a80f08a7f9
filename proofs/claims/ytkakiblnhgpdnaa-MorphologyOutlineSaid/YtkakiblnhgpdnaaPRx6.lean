-- Written by this session's own program (myprint.py).
import Derived.Test.YtkakiblnhgpdnaaPRx0
import Derived.Test.YtkakiblnhgpdnaaPRx1
import Derived.Test.YtkakiblnhgpdnaaPRx2
import Derived.Test.YtkakiblnhgpdnaaPRx4
import Derived.Test.YtkakiblnhgpdnaaPRx5
namespace Go.Proofs.Ytkakiblnhgpdnaa.PR
open Go.RowKit Go.Proofs.YtkakiblnhgpdnaaW.PrintWords Go.Proofs.YtkakiblnhgpdnaaW.PrintLast Go.Proofs.YtkakiblnhgpdnaaW.PrintMore Go.Proofs.Ytkakiblnhgpdnaa.XWords Go.Proofs.Ytkakiblnhgpdnaa.XShort Go.Proofs.Ytkakiblnhgpdnaa.XFn
attribute [local go_sem] max2_int min2_int max_two min_two max_three min_three max_four min_four   -- for this text's walks alone
set_option linter.unusedVariables false
set_option linter.unusedSimpArgs false

/-! ### morphology_perform: function 30 -/
mutual
def morphology_perform.j0 : Nat → Int → Int → List Nat → Int → Int → Int → Int → List Bool → Option (Int × Int × List Bool × Int)
  | 0, _, _, _, _, _, _, _, _ => none
  | k + 1, x1, x2, x3, x200000, x200001, x200002, x200003, x200004 => morphology_perform.l0 k x1 x2 x3 (x3.length : Int) 0 x200000 x200001 x200002 x200003 x200004
def morphology_perform.l0 : Nat → Int → Int → List Nat → Int → Int → Int → Int → Int → Int → List Bool → Option (Int × Int × List Bool × Int)
  | 0, _, _, _, _, _, _, _, _, _, _ => none
  | k + 1, x1, x2, x40, x41, x42, x200000, x200001, x200002, x200003, x200004 => if x42 < x41 then (if 0 ≤ x42 then (if x42 < (x40.length : Int) then ((morphology_plane_transform.f k x200000 x200001 x200002 x200003 x200004 x1 x2 (rdOf 0 x40 x42)).bind fun bt208 => (morphology_perform.l0 k x1 x2 x40 x41 (wrap64 (x42 + 1)) bt208.1 bt208.2.1 bt208.2.2.1 bt208.2.2.2.1 bt208.2.2.2.2)) else (none)) else (none)) else ((morphology_plane_bitmap.f k x200000 x200001 x200002 x200003 x200004).bind fun bt215 => (some (bt215.1, bt215.2.1, bt215.2.2, 0)))
end
def morphology_perform.f (k : Nat) (a0_0 : Int) (a0_1 : Int) (l0_2 : List Bool) (a1 : Int) (a2 : Int) (l3 : List Nat) : Option (Int × Int × List Bool × Int) := (morphology_check.f k a0_0 a0_1 l0_2 (([a1, a2] : List Int))).bind fun t191 => (if t191 = 0 then ((morphology_planeOf.f k a0_0 a0_1 l0_2 0 0).bind fun bt192 => (if (l3.length : Int) > 1 then ((morphology_planeOf.f k a0_0 a0_1 l0_2 (mn a1 a0_0) (mn a2 a0_1)).bind fun bt200 => (morphology_perform.j0 k (mn a1 a0_0) (mn a2 a0_1) l3 bt200.1 bt200.2.1 bt200.2.2.1 bt200.2.2.2.1 bt200.2.2.2.2)) else (morphology_perform.j0 k (mn a1 a0_0) (mn a2 a0_1) l3 bt192.1 bt192.2.1 bt192.2.2.1 bt192.2.2.2.1 bt192.2.2.2.2))) else (some (0, 0, ([] : List Bool), t191)))
theorem morphology_perform.mono_l : ∀ k, (∀ y0 y1 y2 y3 y4 y5 y6 y7, LeO (morphology_perform.j0 k y0 y1 y2 y3 y4 y5 y6 y7) (morphology_perform.j0 (k + 1) y0 y1 y2 y3 y4 y5 y6 y7)) ∧ (∀ y0 y1 y2 y3 y4 y5 y6 y7 y8 y9, LeO (morphology_perform.l0 k y0 y1 y2 y3 y4 y5 y6 y7 y8 y9) (morphology_perform.l0 (k + 1) y0 y1 y2 y3 y4 y5 y6 y7 y8 y9))
  | 0 => ⟨fun _ _ _ _ _ _ _ _ r h => by simp [morphology_perform.j0] at h, fun _ _ _ _ _ _ _ _ _ _ r h => by simp [morphology_perform.l0] at h⟩
  | k + 1 => by
    obtain ⟨ih0, ih1⟩ := morphology_perform.mono_l k
    refine ⟨?_, ?_⟩
    · intro y0 y1 y2 y3 y4 y5 y6 y7
      unfold morphology_perform.j0
      repeat' first
      | (with_reducible exact ih0 _ _ _ _ _ _ _ _)
      | (with_reducible exact ih1 _ _ _ _ _ _ _ _ _ _)
      | (with_reducible exact morphology_check.mono _ _ _ _ _)
      | (with_reducible exact morphology_planeOf.mono _ _ _ _ _ _)
      | (with_reducible exact morphology_plane_bitmap.mono _ _ _ _ _ _)
      | (with_reducible exact morphology_plane_transform.mono _ _ _ _ _ _ _ _ _)
      | (with_reducible exact LeO.refl _)
      | (with_reducible exact LeO.none _)
      | (with_reducible refine LeO.ite ?_ ?_)
      | (with_reducible refine LeO.bind ?_ (fun _ => ?_))
      | exact ih0 _ _ _ _ _ _ _ _
      | exact ih1 _ _ _ _ _ _ _ _ _ _
      | exact morphology_check.mono _ _ _ _ _
      | exact morphology_planeOf.mono _ _ _ _ _ _
      | exact morphology_plane_bitmap.mono _ _ _ _ _ _
      | exact morphology_plane_transform.mono _ _ _ _ _ _ _ _ _
      | exact LeO.none _
      | refine LeO.ite ?_ ?_
      | refine LeO.bind ?_ (fun _ => ?_)
    · intro y0 y1 y2 y3 y4 y5 y6 y7 y8 y9
      unfold morphology_perform.l0
      repeat' first
      | (with_reducible exact ih0 _ _ _ _ _ _ _ _)
      | (with_reducible exact ih1 _ _ _ _ _ _ _ _ _ _)
      | (with_reducible exact morphology_check.mono _ _ _ _ _)
      | (with_reducible exact morphology_planeOf.mono _ _ _ _ _ _)
      | (with_reducible exact morphology_plane_bitmap.mono _ _ _ _ _ _)
      | (with_reducible exact morphology_plane_transform.mono _ _ _ _ _ _ _ _ _)
      | (with_reducible exact LeO.refl _)
      | (with_reducible exact LeO.none _)
      | (with_reducible refine LeO.ite ?_ ?_)
      | (with_reducible refine LeO.bind ?_ (fun _ => ?_))
      | exact ih0 _ _ _ _ _ _ _ _
      | exact ih1 _ _ _ _ _ _ _ _ _ _
      | exact morphology_check.mono _ _ _ _ _
      | exact morphology_planeOf.mono _ _ _ _ _ _
      | exact morphology_plane_bitmap.mono _ _ _ _ _ _
      | exact morphology_plane_transform.mono _ _ _ _ _ _ _ _ _
      | exact LeO.none _
      | refine LeO.ite ?_ ?_
      | refine LeO.bind ?_ (fun _ => ?_)
theorem morphology_perform.mono : ∀ a0 a1 a2 a3 a4 a5 k, LeO (morphology_perform.f k a0 a1 a2 a3 a4 a5) (morphology_perform.f (k + 1) a0 a1 a2 a3 a4 a5) := by
  intro a0 a1 a2 a3 a4 a5 k
  obtain ⟨ih0, ih1⟩ := morphology_perform.mono_l k
  unfold morphology_perform.f
  repeat' first
      | (with_reducible exact ih0 _ _ _ _ _ _ _ _)
      | (with_reducible exact ih1 _ _ _ _ _ _ _ _ _ _)
      | (with_reducible exact morphology_check.mono _ _ _ _ _)
      | (with_reducible exact morphology_planeOf.mono _ _ _ _ _ _)
      | (with_reducible exact morphology_plane_bitmap.mono _ _ _ _ _ _)
      | (with_reducible exact morphology_plane_transform.mono _ _ _ _ _ _ _ _ _)
      | (with_reducible exact LeO.refl _)
      | (with_reducible exact LeO.none _)
      | (with_reducible refine LeO.ite ?_ ?_)
      | (with_reducible refine LeO.bind ?_ (fun _ => ?_))
      | exact ih0 _ _ _ _ _ _ _ _
      | exact ih1 _ _ _ _ _ _ _ _ _ _
      | exact morphology_check.mono _ _ _ _ _
      | exact morphology_planeOf.mono _ _ _ _ _ _
      | exact morphology_plane_bitmap.mono _ _ _ _ _ _
      | exact morphology_plane_transform.mono _ _ _ _ _ _ _ _ _
      | exact LeO.none _
      | refine LeO.ite ?_ ?_
      | refine LeO.bind ?_ (fun _ => ?_)
set_option maxHeartbeats 8000000 in
set_option maxRecDepth 100000 in
theorem morphology_perform.calls (k : Nat) (a0_0 : Int) (a0_1 : Int) (A0_2 : Option Addr) (c0_2 : Nat) (l0_2 : List Bool) (a1 : Int) (a2 : Int) (A3 : Option Addr) (c3 : Nat) (l3 : List Nat) (r1 : Int) (r2 : Int) (r3 : List Bool) (r4 : Int) (w : World) (hr0_2 : Kd.C Kd.bool w A0_2 l0_2.length l0_2) (hc0_2 : l0_2.length ≤ c0_2) (hr3 : Kd.C Kd.fn w A3 l3.length l3) (hc3 : l3.length ≤ c3) (h : morphology_perform.f k a0_0 a0_1 l0_2 a1 a2 l3 = some (r1, r2, r3, r4)) :
    Calls Try.prog 30 #[.agg #[.int .i64 a0_0, .int .i64 a0_1, .slice A0_2 l0_2.length c0_2], .int .i64 a1, .int .i64 a2, .slice A3 l3.length c3] w fun e w' => ∃ v2_ : Value, e = .returned (.tuple #[.agg #[.int .i64 r1, .int .i64 r2, v2_], .int .i64 r4]) ∧ Kd.R Kd.bool 4 w' w.heap.size (fun _ => True) v2_ r3 ∧ Below w.heap.size w w' := by
  have hu24 := Try.underlying24
  have hu50 := Try.underlying50
  have HR0_2 := Aside0.mk hr0_2
  have HC0_2 := Aside0.mk hc0_2
  clear hr0_2 hc0_2
  have HR3 := Aside0.mk hr3
  have HC3 := Aside0.mk hc3
  clear hr3 hc3
  have HB := Aside0.mk (Below.refl w.heap.size w)
  have H : ((morphology_check.f k a0_0 a0_1 l0_2 (([a1, a2] : List Int))).bind fun t191 => (if t191 = 0 then ((morphology_planeOf.f k a0_0 a0_1 l0_2 0 0).bind fun bt192 => (if (l3.length : Int) > 1 then ((morphology_planeOf.f k a0_0 a0_1 l0_2 (mn a1 a0_0) (mn a2 a0_1)).bind fun bt200 => (morphology_perform.j0 k (mn a1 a0_0) (mn a2 a0_1) l3 bt200.1 bt200.2.1 bt200.2.2.1 bt200.2.2.2.1 bt200.2.2.2.2)) else (morphology_perform.j0 k (mn a1 a0_0) (mn a2 a0_1) l3 bt192.1 bt192.2.1 bt192.2.2.1 bt192.2.2.2.1 bt192.2.2.2.2))) else (some (0, 0, ([] : List Bool), t191)))) = some (r1, r2, r3, r4) := h
  clear h
  obtain ⟨y188, hy188⟩ : ∃ y_ : List Int, y_ = (([a1, a2] : List Int)) := ⟨_, rfl⟩
  replace H : ((morphology_check.f k a0_0 a0_1 l0_2 y188).bind fun t191 => (if t191 = 0 then ((morphology_planeOf.f k a0_0 a0_1 l0_2 0 0).bind fun bt192 => (if (l3.length : Int) > 1 then ((morphology_planeOf.f k a0_0 a0_1 l0_2 (mn a1 a0_0) (mn a2 a0_1)).bind fun bt200 => (morphology_perform.j0 k (mn a1 a0_0) (mn a2 a0_1) l3 bt200.1 bt200.2.1 bt200.2.2.1 bt200.2.2.2.1 bt200.2.2.2.2)) else (morphology_perform.j0 k (mn a1 a0_0) (mn a2 a0_1) l3 bt192.1 bt192.2.1 bt192.2.2.1 bt192.2.2.2.1 bt192.2.2.2.2))) else (some (0, 0, ([] : List Bool), t191)))) = some (r1, r2, r3, r4) := by first | (rw [hy188]; with_reducible exact H) | (have H2_ := (Option.bind_some _ _).symm.trans H; rw [hy188]; with_reducible exact H2_) | (have H2_ := (Option.bind_some _ _).symm.trans H; with_reducible exact H2_) | with_reducible exact H | (rw [hy188]; exact H) | exact H
  have Ny188 := Aside0.mk hy188
  clear hy188
  replace H := Option.bind_eq_some_iff.mp H
  obtain ⟨t191, A50, H⟩ := H
  replace H : (if t191 = 0 then ((morphology_planeOf.f k a0_0 a0_1 l0_2 0 0).bind fun bt192 => (if (l3.length : Int) > 1 then ((morphology_planeOf.f k a0_0 a0_1 l0_2 (mn a1 a0_0) (mn a2 a0_1)).bind fun bt200 => (morphology_perform.j0 k (mn a1 a0_0) (mn a2 a0_1) l3 bt200.1 bt200.2.1 bt200.2.2.1 bt200.2.2.2.1 bt200.2.2.2.2)) else (morphology_perform.j0 k (mn a1 a0_0) (mn a2 a0_1) l3 bt192.1 bt192.2.1 bt192.2.2.1 bt192.2.2.2.1 bt192.2.2.2.2))) else (some (0, 0, ([] : List Bool), t191))) = some (r1, r2, r3, r4) := H
  have A5 := Aside0.mk A50
  clear A50
  by_cases c6 : t191 = 0
  · rw [if_pos c6] at H
    have c6b0 : (t191 == 0) = true := beq_iff_eq.mpr c6
    have c6b1 : (t191 != 0) = false := bne_eq_false_iff_eq.mpr c6
    clear c6
    obtain ⟨ji7, hji7⟩ : ∃ j_ : Int, (mn a1 a0_0) = j_ := ⟨_, rfl⟩
    replace H : ((morphology_planeOf.f k a0_0 a0_1 l0_2 0 0).bind fun bt192 => (if (l3.length : Int) > 1 then ((morphology_planeOf.f k a0_0 a0_1 l0_2 (ji7) (mn a2 a0_1)).bind fun bt200 => (morphology_perform.j0 k ji7 (mn a2 a0_1) l3 bt200.1 bt200.2.1 bt200.2.2.1 bt200.2.2.2.1 bt200.2.2.2.2)) else (morphology_perform.j0 k ji7 (mn a2 a0_1) l3 bt192.1 bt192.2.1 bt192.2.2.1 bt192.2.2.2.1 bt192.2.2.2.2))) = some (r1, r2, r3, r4) := by first | (rw [hji7] at H; exact H) | (simp only [hji7] at H ⊢; exact H)
    (try rw [hji7] at A5)
    have hji7_ : (if a0_0 < a1 then a0_0 else a1) = ji7 := hji7
    obtain ⟨ji8, hji8⟩ : ∃ j_ : Int, (mn a2 a0_1) = j_ := ⟨_, rfl⟩
    replace H : ((morphology_planeOf.f k a0_0 a0_1 l0_2 0 0).bind fun bt192 => (if (l3.length : Int) > 1 then ((morphology_planeOf.f k a0_0 a0_1 l0_2 (ji7) (ji8)).bind fun bt200 => (morphology_perform.j0 k ji7 ji8 l3 bt200.1 bt200.2.1 bt200.2.2.1 bt200.2.2.2.1 bt200.2.2.2.2)) else (morphology_perform.j0 k ji7 ji8 l3 bt192.1 bt192.2.1 bt192.2.2.1 bt192.2.2.2.1 bt192.2.2.2.2))) = some (r1, r2, r3, r4) := by first | (rw [hji8] at H; exact H) | (simp only [hji8] at H ⊢; exact H)
    (try rw [hji8] at A5)
    have hji8_ : (if a0_1 < a2 then a0_1 else a2) = ji8 := hji8
    replace H := Option.bind_eq_some_iff.mp H
    obtain ⟨⟨t192, t193, t194, t195, t196⟩, A90, H⟩ := H
    replace H : (if (l3.length : Int) > 1 then ((morphology_planeOf.f k a0_0 a0_1 l0_2 (ji7) (ji8)).bind fun bt200 => (morphology_perform.j0 k ji7 ji8 l3 bt200.1 bt200.2.1 bt200.2.2.1 bt200.2.2.2.1 bt200.2.2.2.2)) else (morphology_perform.j0 k ji7 ji8 l3 t192 t193 t194 t195 t196)) = some (r1, r2, r3, r4) := H
    have A9 := Aside0.mk A90
    clear A90
    have HC10 := Aside0.mk H
    clear H
    go_enter Try.func30, Try.ntmps30
    go_upto_if 35 with (first | ((with_reducible refine gate_dst (N := 4) rfl ?_); refine box_event ?hg (N := 4) ?hd (cs := #[.int .i64 a0_0, .int .i64 a0_1, .slice A0_2 l0_2.length c0_2]) (t := 24) ?hr ?_; (case hd => rfl); (case hg => rfl); (case hr => first | (go_simp; done) | (go_simp; rfl)); intro gb186 hg w11 hbox hb; have n0_ := Aside0.mk (below_step (hb0 HB) hb); have n1_ := Aside0.mk (hbox); have n2_ := Aside0.mk ((by rw [hg]; exact (below_size (hb0 HB)) : w.heap.size ≤ gb186)); have n3_ := Aside0.mk ((by rw [hg]; exact (below_size (hb0 HB)) : w.heap.size ≤ gb186)); clear HB; have HB := n0_; have BK186 := n1_; have GW186 := n2_; have GE186 := n3_; clear n0_ n1_ n2_ n3_; clear hb hbox hg) | ((with_reducible refine gate_dst (N := 8) rfl ?_); refine box_event ?hg (N := 8) ?hd (cs := #[.int .i64 0, .int .i64 0, .slice none 0 0]) (t := 24) ?hr ?_; (case hd => rfl); (case hg => rfl); (case hr => first | (go_simp; done) | (go_simp; rfl)); intro gb187 hg w12 hbox hb; have n0_ := Aside0.mk (blk_below (bkx BK186) hb); have n1_ := Aside0.mk (below_step (hb1 HB GE186) hb); have n2_ := Aside0.mk (hbox); have n3_ := Aside0.mk ((by rw [hg]; exact (below_size (hb1 HB GE186)) : w.heap.size ≤ gb187)); have n4_ := Aside0.mk ((by rw [hg]; exact (below_size (hb1 HB GE186)) : w.heap.size ≤ gb187)); have n5_ := Aside0.mk (nel hg BK186 : gb186 ≠ gb187); have n6_ := Aside0.mk (neg hg BK186 : gb187 ≠ gb186); clear BK186; clear HB; have BK186 := n0_; have HB := n1_; have BK187 := n2_; have GW187 := n3_; have GE187 := n4_; have NB186_187 := n5_; have NB187_186 := n6_; clear n0_ n1_ n2_ n3_ n4_ n5_ n6_; clear hb hbox hg; have hnb13 := NB186_187.out; have hnc13 := NB187_186.out; have hcz14_0 : w12.cell? ⟨gb186, 0, none⟩ = some (.int .i64 a0_0) := (blk_cell BK186.out 0).trans rfl; have hcz14_1 : w12.cell? ⟨gb186, 1, none⟩ = some (.int .i64 a0_1) := (blk_cell BK186.out 1).trans rfl; have hcz14_2 : w12.cell? ⟨gb186, 2, none⟩ = some (.slice A0_2 l0_2.length c0_2) := (blk_cell BK186.out 2).trans rfl; have hfz14_0 := blk_frozen BK186.out 0; have hfz14_1 := blk_frozen BK186.out 1; have hfz14_2 := blk_frozen BK186.out 2) | ((with_reducible refine gate_dst (N := 17) rfl ?_); refine Kd.R_lit (Kd.int .i64) _ 3 ?hg (N := 17) ?hd (xs := ([a1, a2] : List Int)) (inner := [.int .i64 a1, .int .i64 a2]) (ok := fun _ => True) (okp := fun _ => True) ?hr ?hp (fun _ hk => hk) trivial (Below.refl _ _) (Nat.le_refl _) (by simp) ?_; (case hd => rfl); (case hg => rfl); (case hr => first | (go_simp; done) | (go_simp; rfl)); (case hp => exact (Reps.one (show Kd.M (Kd.int .i64) _ _ _ a1 [.int .i64 a1] from rfl) (Reps.one (show Kd.M (Kd.int .i64) _ _ _ a2 [.int .i64 a2] from rfl) (Reps.none _ _)))); intro v189 w15 ho16 hb hg_ hnew_; clear hg_ hnew_; (first | rw [← Ny188.out] at ho16 | (simp only [Int.reduceToNat] at ho16; rw [← Ny188.out] at ho16)); have n0_ := Aside0.mk (Kd.R_lower ho16 (below_size (hb2 HB GE186 GE187))); have n1_ := Aside0.mk (blk_below (bkx BK186) hb); have n2_ := Aside0.mk (blk_below (bkx BK187) hb); have n3_ := Aside0.mk (below_step (hb2 HB GE186 GE187) hb); clear BK186; clear BK187; clear HB; have HO190 := n0_; have BK186 := n1_; have BK187 := n2_; have HB := n3_; clear n0_ n1_ n2_ n3_; clear hb ho16; obtain ⟨Ao17, co17, eo17⟩ := Kd.R_slice HO190.out; subst eo17) | (go_at_call 35; (with_reducible refine (morphology_check.calls k a0_0 a0_1 _ _ l0_2 _ _ y188 t191 _ ?side1 ?side2 ?side3 ?side4 A5.out).mono ?_); (case side1 => repeat (first | exact (Kd.C_below HR0_2.out HB.out) | (with_reducible refine Kd.C_alloc ?_ _) | (with_reducible refine Kd.C_drewN ?_ _) | (with_reducible refine Kd.C_drew ?_))); (case side2 => exact HC0_2.out); (case side3 => repeat (first | exact (Kd.R_reads' HO190.out).2.2 | (with_reducible refine Kd.C_alloc ?_ _) | (with_reducible refine Kd.C_drewN ?_ _) | (with_reducible refine Kd.C_drew ?_))); (case side4 => exact (Kd.R_reads' HO190.out).2.1); rintro e w18 ⟨rfl, hb⟩; have n0_ := Aside0.mk (Kd.R_below (rkx HO190) hb); have n1_ := Aside0.mk (blk_below (bkx BK186) hb); have n2_ := Aside0.mk (blk_below (bkx BK187) hb); have n3_ := Aside0.mk (below_step (hb2 HB GE186 GE187) hb); clear HO190; clear BK186; clear BK187; clear HB; have HO190 := n0_; have BK186 := n1_; have BK187 := n2_; have HB := n3_; clear n0_ n1_ n2_ n3_; (try clear hb); (try clear hb2); (try clear hk); (try clear hi); have hcz19_0 : w18.cell? ⟨gb186, 0, none⟩ = some (.int .i64 a0_0) := (blk_cell BK186.out 0).trans rfl; have hcz19_1 : w18.cell? ⟨gb186, 1, none⟩ = some (.int .i64 a0_1) := (blk_cell BK186.out 1).trans rfl; have hcz19_2 : w18.cell? ⟨gb186, 2, none⟩ = some (.slice A0_2 l0_2.length c0_2) := (blk_cell BK186.out 2).trans rfl; have hfz19_0 := blk_frozen BK186.out 0; have hfz19_1 := blk_frozen BK186.out 1; have hfz19_2 := blk_frozen BK186.out 2) | (go_at_call 36; (with_reducible refine (morphology_planeOf.calls k a0_0 a0_1 _ _ l0_2 0 0 t192 t193 t194 t195 t196 _ ?side1 ?side2 A9.out).mono ?_); (case side1 => repeat (first | exact (Kd.C_below HR0_2.out HB.out) | (with_reducible refine Kd.C_alloc ?_ _) | (with_reducible refine Kd.C_drewN ?_ _) | (with_reducible refine Kd.C_drew ?_))); (case side2 => exact HC0_2.out); rintro e w20 ⟨v197, rfl, ho0, hb⟩; have n0_ := Aside0.mk (Kd.R_below (rkx HO190) hb); have n1_ := Aside0.mk (Kd.R_lower ho0 (below_size (hb2 HB GE186 GE187))); have n2_ := Aside0.mk (blk_below (bkx BK186) hb); have n3_ := Aside0.mk (blk_below (bkx BK187) hb); have n4_ := Aside0.mk (below_step (hb2 HB GE186 GE187) hb); clear HO190; clear BK186; clear BK187; clear HB; have HO190 := n0_; have HO198 := n1_; have BK186 := n2_; have BK187 := n3_; have HB := n4_; clear n0_ n1_ n2_ n3_ n4_; (try clear hb); (try clear hb2); (try clear hk); (try clear hi); (try clear ho0)) | ((with_reducible refine gate_dst (N := 11) rfl ?_); refine box_event ?hg (N := 11) ?hd (cs := #[.int .i64 0, .int .i64 0, .int .i64 0, .int .i64 0, .slice none 0 0]) (t := 50) ?hr ?_; (case hd => rfl); (case hg => rfl); (case hr => first | (go_simp; done) | (go_simp; rfl)); intro gb199 hg w21 hbox hb; have n0_ := Aside0.mk (Kd.R_below (rkx HO190) hb); have n1_ := Aside0.mk (Kd.R_below (rkx HO198) hb); have n2_ := Aside0.mk (blk_below (bkx BK186) hb); have n3_ := Aside0.mk (blk_below (bkx BK187) hb); have n4_ := Aside0.mk (below_step (hb2 HB GE186 GE187) hb); have n5_ := Aside0.mk (hbox); have n6_ := Aside0.mk ((by rw [hg]; exact (below_size (hb2 HB GE186 GE187)) : w.heap.size ≤ gb199)); have n7_ := Aside0.mk ((by rw [hg]; exact (below_size (hb2 HB GE186 GE187)) : w.heap.size ≤ gb199)); have n8_ := Aside0.mk (nel hg BK186 : gb186 ≠ gb199); have n9_ := Aside0.mk (neg hg BK186 : gb199 ≠ gb186); have n10_ := Aside0.mk (nel hg BK187 : gb187 ≠ gb199); have n11_ := Aside0.mk (neg hg BK187 : gb199 ≠ gb187); clear HO190; clear HO198; clear BK186; clear BK187; clear HB; have HO190 := n0_; have HO198 := n1_; have BK186 := n2_; have BK187 := n3_; have HB := n4_; have BK199 := n5_; have GW199 := n6_; have GE199 := n7_; have NB186_199 := n8_; have NB199_186 := n9_; have NB187_199 := n10_; have NB199_187 := n11_; clear n0_ n1_ n2_ n3_ n4_ n5_ n6_ n7_ n8_ n9_ n10_ n11_; clear hb hbox hg; have hnb22 := NB199_186.out; have hnc22 := NB186_199.out; have hnb23 := NB199_187.out; have hnc23 := NB187_199.out; have hcz24_0 : w21.cell? ⟨gb199, 0, none⟩ = some (.int .i64 0) := (blk_cell BK199.out 0).trans rfl; have hcz24_1 : w21.cell? ⟨gb199, 1, none⟩ = some (.int .i64 0) := (blk_cell BK199.out 1).trans rfl; have hcz24_2 : w21.cell? ⟨gb199, 2, none⟩ = some (.int .i64 0) := (blk_cell BK199.out 2).trans rfl; have hcz24_3 : w21.cell? ⟨gb199, 3, none⟩ = some (.int .i64 0) := (blk_cell BK199.out 3).trans rfl; have hcz24_4 : w21.cell? ⟨gb199, 4, none⟩ = some (.slice none 0 0) := (blk_cell BK199.out 4).trans rfl; have hfz24_0 := blk_frozen BK199.out 0; have hfz24_1 := blk_frozen BK199.out 1; have hfz24_2 := blk_frozen BK199.out 2; have hfz24_3 := blk_frozen BK199.out 3; have hfz24_4 := blk_frozen BK199.out 4; obtain ⟨Ao25, co25, eo25⟩ := Kd.R_slice HO198.out; subst eo25))
    repeat (go_quiet (first | ((with_reducible refine gate_dst (N := 4) rfl ?_); refine box_event ?hg (N := 4) ?hd (cs := #[.int .i64 a0_0, .int .i64 a0_1, .slice A0_2 l0_2.length c0_2]) (t := 24) ?hr ?_; (case hd => rfl); (case hg => rfl); (case hr => first | (go_simp; done) | (go_simp; rfl)); intro gb186 hg w11 hbox hb; have n0_ := Aside0.mk (below_step (hb0 HB) hb); have n1_ := Aside0.mk (hbox); have n2_ := Aside0.mk ((by rw [hg]; exact (below_size (hb0 HB)) : w.heap.size ≤ gb186)); have n3_ := Aside0.mk ((by rw [hg]; exact (below_size (hb0 HB)) : w.heap.size ≤ gb186)); clear HB; have HB := n0_; have BK186 := n1_; have GW186 := n2_; have GE186 := n3_; clear n0_ n1_ n2_ n3_; clear hb hbox hg) | ((with_reducible refine gate_dst (N := 8) rfl ?_); refine box_event ?hg (N := 8) ?hd (cs := #[.int .i64 0, .int .i64 0, .slice none 0 0]) (t := 24) ?hr ?_; (case hd => rfl); (case hg => rfl); (case hr => first | (go_simp; done) | (go_simp; rfl)); intro gb187 hg w12 hbox hb; have n0_ := Aside0.mk (blk_below (bkx BK186) hb); have n1_ := Aside0.mk (below_step (hb1 HB GE186) hb); have n2_ := Aside0.mk (hbox); have n3_ := Aside0.mk ((by rw [hg]; exact (below_size (hb1 HB GE186)) : w.heap.size ≤ gb187)); have n4_ := Aside0.mk ((by rw [hg]; exact (below_size (hb1 HB GE186)) : w.heap.size ≤ gb187)); have n5_ := Aside0.mk (nel hg BK186 : gb186 ≠ gb187); have n6_ := Aside0.mk (neg hg BK186 : gb187 ≠ gb186); clear BK186; clear HB; have BK186 := n0_; have HB := n1_; have BK187 := n2_; have GW187 := n3_; have GE187 := n4_; have NB186_187 := n5_; have NB187_186 := n6_; clear n0_ n1_ n2_ n3_ n4_ n5_ n6_; clear hb hbox hg; have hnb13 := NB186_187.out; have hnc13 := NB187_186.out; have hcz14_0 : w12.cell? ⟨gb186, 0, none⟩ = some (.int .i64 a0_0) := (blk_cell BK186.out 0).trans rfl; have hcz14_1 : w12.cell? ⟨gb186, 1, none⟩ = some (.int .i64 a0_1) := (blk_cell BK186.out 1).trans rfl; have hcz14_2 : w12.cell? ⟨gb186, 2, none⟩ = some (.slice A0_2 l0_2.length c0_2) := (blk_cell BK186.out 2).trans rfl; have hfz14_0 := blk_frozen BK186.out 0; have hfz14_1 := blk_frozen BK186.out 1; have hfz14_2 := blk_frozen BK186.out 2) | ((with_reducible refine gate_dst (N := 17) rfl ?_); refine Kd.R_lit (Kd.int .i64) _ 3 ?hg (N := 17) ?hd (xs := ([a1, a2] : List Int)) (inner := [.int .i64 a1, .int .i64 a2]) (ok := fun _ => True) (okp := fun _ => True) ?hr ?hp (fun _ hk => hk) trivial (Below.refl _ _) (Nat.le_refl _) (by simp) ?_; (case hd => rfl); (case hg => rfl); (case hr => first | (go_simp; done) | (go_simp; rfl)); (case hp => exact (Reps.one (show Kd.M (Kd.int .i64) _ _ _ a1 [.int .i64 a1] from rfl) (Reps.one (show Kd.M (Kd.int .i64) _ _ _ a2 [.int .i64 a2] from rfl) (Reps.none _ _)))); intro v189 w15 ho16 hb hg_ hnew_; clear hg_ hnew_; (first | rw [← Ny188.out] at ho16 | (simp only [Int.reduceToNat] at ho16; rw [← Ny188.out] at ho16)); have n0_ := Aside0.mk (Kd.R_lower ho16 (below_size (hb2 HB GE186 GE187))); have n1_ := Aside0.mk (blk_below (bkx BK186) hb); have n2_ := Aside0.mk (blk_below (bkx BK187) hb); have n3_ := Aside0.mk (below_step (hb2 HB GE186 GE187) hb); clear BK186; clear BK187; clear HB; have HO190 := n0_; have BK186 := n1_; have BK187 := n2_; have HB := n3_; clear n0_ n1_ n2_ n3_; clear hb ho16; obtain ⟨Ao17, co17, eo17⟩ := Kd.R_slice HO190.out; subst eo17) | (go_at_call 35; (with_reducible refine (morphology_check.calls k a0_0 a0_1 _ _ l0_2 _ _ y188 t191 _ ?side1 ?side2 ?side3 ?side4 A5.out).mono ?_); (case side1 => repeat (first | exact (Kd.C_below HR0_2.out HB.out) | (with_reducible refine Kd.C_alloc ?_ _) | (with_reducible refine Kd.C_drewN ?_ _) | (with_reducible refine Kd.C_drew ?_))); (case side2 => exact HC0_2.out); (case side3 => repeat (first | exact (Kd.R_reads' HO190.out).2.2 | (with_reducible refine Kd.C_alloc ?_ _) | (with_reducible refine Kd.C_drewN ?_ _) | (with_reducible refine Kd.C_drew ?_))); (case side4 => exact (Kd.R_reads' HO190.out).2.1); rintro e w18 ⟨rfl, hb⟩; have n0_ := Aside0.mk (Kd.R_below (rkx HO190) hb); have n1_ := Aside0.mk (blk_below (bkx BK186) hb); have n2_ := Aside0.mk (blk_below (bkx BK187) hb); have n3_ := Aside0.mk (below_step (hb2 HB GE186 GE187) hb); clear HO190; clear BK186; clear BK187; clear HB; have HO190 := n0_; have BK186 := n1_; have BK187 := n2_; have HB := n3_; clear n0_ n1_ n2_ n3_; (try clear hb); (try clear hb2); (try clear hk); (try clear hi); have hcz19_0 : w18.cell? ⟨gb186, 0, none⟩ = some (.int .i64 a0_0) := (blk_cell BK186.out 0).trans rfl; have hcz19_1 : w18.cell? ⟨gb186, 1, none⟩ = some (.int .i64 a0_1) := (blk_cell BK186.out 1).trans rfl; have hcz19_2 : w18.cell? ⟨gb186, 2, none⟩ = some (.slice A0_2 l0_2.length c0_2) := (blk_cell BK186.out 2).trans rfl; have hfz19_0 := blk_frozen BK186.out 0; have hfz19_1 := blk_frozen BK186.out 1; have hfz19_2 := blk_frozen BK186.out 2) | (go_at_call 36; (with_reducible refine (morphology_planeOf.calls k a0_0 a0_1 _ _ l0_2 0 0 t192 t193 t194 t195 t196 _ ?side1 ?side2 A9.out).mono ?_); (case side1 => repeat (first | exact (Kd.C_below HR0_2.out HB.out) | (with_reducible refine Kd.C_alloc ?_ _) | (with_reducible refine Kd.C_drewN ?_ _) | (with_reducible refine Kd.C_drew ?_))); (case side2 => exact HC0_2.out); rintro e w20 ⟨v197, rfl, ho0, hb⟩; have n0_ := Aside0.mk (Kd.R_below (rkx HO190) hb); have n1_ := Aside0.mk (Kd.R_lower ho0 (below_size (hb2 HB GE186 GE187))); have n2_ := Aside0.mk (blk_below (bkx BK186) hb); have n3_ := Aside0.mk (blk_below (bkx BK187) hb); have n4_ := Aside0.mk (below_step (hb2 HB GE186 GE187) hb); clear HO190; clear BK186; clear BK187; clear HB; have HO190 := n0_; have HO198 := n1_; have BK186 := n2_; have BK187 := n3_; have HB := n4_; clear n0_ n1_ n2_ n3_ n4_; (try clear hb); (try clear hb2); (try clear hk); (try clear hi); (try clear ho0)) | ((with_reducible refine gate_dst (N := 11) rfl ?_); refine box_event ?hg (N := 11) ?hd (cs := #[.int .i64 0, .int .i64 0, .int .i64 0, .int .i64 0, .slice none 0 0]) (t := 50) ?hr ?_; (case hd => rfl); (case hg => rfl); (case hr => first | (go_simp; done) | (go_simp; rfl)); intro gb199 hg w21 hbox hb; have n0_ := Aside0.mk (Kd.R_below (rkx HO190) hb); have n1_ := Aside0.mk (Kd.R_below (rkx HO198) hb); have n2_ := Aside0.mk (blk_below (bkx BK186) hb); have n3_ := Aside0.mk (blk_below (bkx BK187) hb); have n4_ := Aside0.mk (below_step (hb2 HB GE186 GE187) hb); have n5_ := Aside0.mk (hbox); have n6_ := Aside0.mk ((by rw [hg]; exact (below_size (hb2 HB GE186 GE187)) : w.heap.size ≤ gb199)); have n7_ := Aside0.mk ((by rw [hg]; exact (below_size (hb2 HB GE186 GE187)) : w.heap.size ≤ gb199)); have n8_ := Aside0.mk (nel hg BK186 : gb186 ≠ gb199); have n9_ := Aside0.mk (neg hg BK186 : gb199 ≠ gb186); have n10_ := Aside0.mk (nel hg BK187 : gb187 ≠ gb199); have n11_ := Aside0.mk (neg hg BK187 : gb199 ≠ gb187); clear HO190; clear HO198; clear BK186; clear BK187; clear HB; have HO190 := n0_; have HO198 := n1_; have BK186 := n2_; have BK187 := n3_; have HB := n4_; have BK199 := n5_; have GW199 := n6_; have GE199 := n7_; have NB186_199 := n8_; have NB199_186 := n9_; have NB187_199 := n10_; have NB199_187 := n11_; clear n0_ n1_ n2_ n3_ n4_ n5_ n6_ n7_ n8_ n9_ n10_ n11_; clear hb hbox hg; have hnb22 := NB199_186.out; have hnc22 := NB186_199.out; have hnb23 := NB199_187.out; have hnc23 := NB187_199.out; have hcz24_0 : w21.cell? ⟨gb199, 0, none⟩ = some (.int .i64 0) := (blk_cell BK199.out 0).trans rfl; have hcz24_1 : w21.cell? ⟨gb199, 1, none⟩ = some (.int .i64 0) := (blk_cell BK199.out 1).trans rfl; have hcz24_2 : w21.cell? ⟨gb199, 2, none⟩ = some (.int .i64 0) := (blk_cell BK199.out 2).trans rfl; have hcz24_3 : w21.cell? ⟨gb199, 3, none⟩ = some (.int .i64 0) := (blk_cell BK199.out 3).trans rfl; have hcz24_4 : w21.cell? ⟨gb199, 4, none⟩ = some (.slice none 0 0) := (blk_cell BK199.out 4).trans rfl; have hfz24_0 := blk_frozen BK199.out 0; have hfz24_1 := blk_frozen BK199.out 1; have hfz24_2 := blk_frozen BK199.out 2; have hfz24_3 := blk_frozen BK199.out 3; have hfz24_4 := blk_frozen BK199.out 4; obtain ⟨Ao25, co25, eo25⟩ := Kd.R_slice HO198.out; subst eo25)); go_upto_if 35 with (first | ((with_reducible refine gate_dst (N := 4) rfl ?_); refine box_event ?hg (N := 4) ?hd (cs := #[.int .i64 a0_0, .int .i64 a0_1, .slice A0_2 l0_2.length c0_2]) (t := 24) ?hr ?_; (case hd => rfl); (case hg => rfl); (case hr => first | (go_simp; done) | (go_simp; rfl)); intro gb186 hg w11 hbox hb; have n0_ := Aside0.mk (below_step (hb0 HB) hb); have n1_ := Aside0.mk (hbox); have n2_ := Aside0.mk ((by rw [hg]; exact (below_size (hb0 HB)) : w.heap.size ≤ gb186)); have n3_ := Aside0.mk ((by rw [hg]; exact (below_size (hb0 HB)) : w.heap.size ≤ gb186)); clear HB; have HB := n0_; have BK186 := n1_; have GW186 := n2_; have GE186 := n3_; clear n0_ n1_ n2_ n3_; clear hb hbox hg) | ((with_reducible refine gate_dst (N := 8) rfl ?_); refine box_event ?hg (N := 8) ?hd (cs := #[.int .i64 0, .int .i64 0, .slice none 0 0]) (t := 24) ?hr ?_; (case hd => rfl); (case hg => rfl); (case hr => first | (go_simp; done) | (go_simp; rfl)); intro gb187 hg w12 hbox hb; have n0_ := Aside0.mk (blk_below (bkx BK186) hb); have n1_ := Aside0.mk (below_step (hb1 HB GE186) hb); have n2_ := Aside0.mk (hbox); have n3_ := Aside0.mk ((by rw [hg]; exact (below_size (hb1 HB GE186)) : w.heap.size ≤ gb187)); have n4_ := Aside0.mk ((by rw [hg]; exact (below_size (hb1 HB GE186)) : w.heap.size ≤ gb187)); have n5_ := Aside0.mk (nel hg BK186 : gb186 ≠ gb187); have n6_ := Aside0.mk (neg hg BK186 : gb187 ≠ gb186); clear BK186; clear HB; have BK186 := n0_; have HB := n1_; have BK187 := n2_; have GW187 := n3_; have GE187 := n4_; have NB186_187 := n5_; have NB187_186 := n6_; clear n0_ n1_ n2_ n3_ n4_ n5_ n6_; clear hb hbox hg; have hnb13 := NB186_187.out; have hnc13 := NB187_186.out; have hcz14_0 : w12.cell? ⟨gb186, 0, none⟩ = some (.int .i64 a0_0) := (blk_cell BK186.out 0).trans rfl; have hcz14_1 : w12.cell? ⟨gb186, 1, none⟩ = some (.int .i64 a0_1) := (blk_cell BK186.out 1).trans rfl; have hcz14_2 : w12.cell? ⟨gb186, 2, none⟩ = some (.slice A0_2 l0_2.length c0_2) := (blk_cell BK186.out 2).trans rfl; have hfz14_0 := blk_frozen BK186.out 0; have hfz14_1 := blk_frozen BK186.out 1; have hfz14_2 := blk_frozen BK186.out 2) | ((with_reducible refine gate_dst (N := 17) rfl ?_); refine Kd.R_lit (Kd.int .i64) _ 3 ?hg (N := 17) ?hd (xs := ([a1, a2] : List Int)) (inner := [.int .i64 a1, .int .i64 a2]) (ok := fun _ => True) (okp := fun _ => True) ?hr ?hp (fun _ hk => hk) trivial (Below.refl _ _) (Nat.le_refl _) (by simp) ?_; (case hd => rfl); (case hg => rfl); (case hr => first | (go_simp; done) | (go_simp; rfl)); (case hp => exact (Reps.one (show Kd.M (Kd.int .i64) _ _ _ a1 [.int .i64 a1] from rfl) (Reps.one (show Kd.M (Kd.int .i64) _ _ _ a2 [.int .i64 a2] from rfl) (Reps.none _ _)))); intro v189 w15 ho16 hb hg_ hnew_; clear hg_ hnew_; (first | rw [← Ny188.out] at ho16 | (simp only [Int.reduceToNat] at ho16; rw [← Ny188.out] at ho16)); have n0_ := Aside0.mk (Kd.R_lower ho16 (below_size (hb2 HB GE186 GE187))); have n1_ := Aside0.mk (blk_below (bkx BK186) hb); have n2_ := Aside0.mk (blk_below (bkx BK187) hb); have n3_ := Aside0.mk (below_step (hb2 HB GE186 GE187) hb); clear BK186; clear BK187; clear HB; have HO190 := n0_; have BK186 := n1_; have BK187 := n2_; have HB := n3_; clear n0_ n1_ n2_ n3_; clear hb ho16; obtain ⟨Ao17, co17, eo17⟩ := Kd.R_slice HO190.out; subst eo17) | (go_at_call 35; (with_reducible refine (morphology_check.calls k a0_0 a0_1 _ _ l0_2 _ _ y188 t191 _ ?side1 ?side2 ?side3 ?side4 A5.out).mono ?_); (case side1 => repeat (first | exact (Kd.C_below HR0_2.out HB.out) | (with_reducible refine Kd.C_alloc ?_ _) | (with_reducible refine Kd.C_drewN ?_ _) | (with_reducible refine Kd.C_drew ?_))); (case side2 => exact HC0_2.out); (case side3 => repeat (first | exact (Kd.R_reads' HO190.out).2.2 | (with_reducible refine Kd.C_alloc ?_ _) | (with_reducible refine Kd.C_drewN ?_ _) | (with_reducible refine Kd.C_drew ?_))); (case side4 => exact (Kd.R_reads' HO190.out).2.1); rintro e w18 ⟨rfl, hb⟩; have n0_ := Aside0.mk (Kd.R_below (rkx HO190) hb); have n1_ := Aside0.mk (blk_below (bkx BK186) hb); have n2_ := Aside0.mk (blk_below (bkx BK187) hb); have n3_ := Aside0.mk (below_step (hb2 HB GE186 GE187) hb); clear HO190; clear BK186; clear BK187; clear HB; have HO190 := n0_; have BK186 := n1_; have BK187 := n2_; have HB := n3_; clear n0_ n1_ n2_ n3_; (try clear hb); (try clear hb2); (try clear hk); (try clear hi); have hcz19_0 : w18.cell? ⟨gb186, 0, none⟩ = some (.int .i64 a0_0) := (blk_cell BK186.out 0).trans rfl; have hcz19_1 : w18.cell? ⟨gb186, 1, none⟩ = some (.int .i64 a0_1) := (blk_cell BK186.out 1).trans rfl; have hcz19_2 : w18.cell? ⟨gb186, 2, none⟩ = some (.slice A0_2 l0_2.length c0_2) := (blk_cell BK186.out 2).trans rfl; have hfz19_0 := blk_frozen BK186.out 0; have hfz19_1 := blk_frozen BK186.out 1; have hfz19_2 := blk_frozen BK186.out 2) | (go_at_call 36; (with_reducible refine (morphology_planeOf.calls k a0_0 a0_1 _ _ l0_2 0 0 t192 t193 t194 t195 t196 _ ?side1 ?side2 A9.out).mono ?_); (case side1 => repeat (first | exact (Kd.C_below HR0_2.out HB.out) | (with_reducible refine Kd.C_alloc ?_ _) | (with_reducible refine Kd.C_drewN ?_ _) | (with_reducible refine Kd.C_drew ?_))); (case side2 => exact HC0_2.out); rintro e w20 ⟨v197, rfl, ho0, hb⟩; have n0_ := Aside0.mk (Kd.R_below (rkx HO190) hb); have n1_ := Aside0.mk (Kd.R_lower ho0 (below_size (hb2 HB GE186 GE187))); have n2_ := Aside0.mk (blk_below (bkx BK186) hb); have n3_ := Aside0.mk (blk_below (bkx BK187) hb); have n4_ := Aside0.mk (below_step (hb2 HB GE186 GE187) hb); clear HO190; clear BK186; clear BK187; clear HB; have HO190 := n0_; have HO198 := n1_; have BK186 := n2_; have BK187 := n3_; have HB := n4_; clear n0_ n1_ n2_ n3_ n4_; (try clear hb); (try clear hb2); (try clear hk); (try clear hi); (try clear ho0)) | ((with_reducible refine gate_dst (N := 11) rfl ?_); refine box_event ?hg (N := 11) ?hd (cs := #[.int .i64 0, .int .i64 0, .int .i64 0, .int .i64 0, .slice none 0 0]) (t := 50) ?hr ?_; (case hd => rfl); (case hg => rfl); (case hr => first | (go_simp; done) | (go_simp; rfl)); intro gb199 hg w21 hbox hb; have n0_ := Aside0.mk (Kd.R_below (rkx HO190) hb); have n1_ := Aside0.mk (Kd.R_below (rkx HO198) hb); have n2_ := Aside0.mk (blk_below (bkx BK186) hb); have n3_ := Aside0.mk (blk_below (bkx BK187) hb); have n4_ := Aside0.mk (below_step (hb2 HB GE186 GE187) hb); have n5_ := Aside0.mk (hbox); have n6_ := Aside0.mk ((by rw [hg]; exact (below_size (hb2 HB GE186 GE187)) : w.heap.size ≤ gb199)); have n7_ := Aside0.mk ((by rw [hg]; exact (below_size (hb2 HB GE186 GE187)) : w.heap.size ≤ gb199)); have n8_ := Aside0.mk (nel hg BK186 : gb186 ≠ gb199); have n9_ := Aside0.mk (neg hg BK186 : gb199 ≠ gb186); have n10_ := Aside0.mk (nel hg BK187 : gb187 ≠ gb199); have n11_ := Aside0.mk (neg hg BK187 : gb199 ≠ gb187); clear HO190; clear HO198; clear BK186; clear BK187; clear HB; have HO190 := n0_; have HO198 := n1_; have BK186 := n2_; have BK187 := n3_; have HB := n4_; have BK199 := n5_; have GW199 := n6_; have GE199 := n7_; have NB186_199 := n8_; have NB199_186 := n9_; have NB187_199 := n10_; have NB199_187 := n11_; clear n0_ n1_ n2_ n3_ n4_ n5_ n6_ n7_ n8_ n9_ n10_ n11_; clear hb hbox hg; have hnb22 := NB199_186.out; have hnc22 := NB186_199.out; have hnb23 := NB199_187.out; have hnc23 := NB187_199.out; have hcz24_0 : w21.cell? ⟨gb199, 0, none⟩ = some (.int .i64 0) := (blk_cell BK199.out 0).trans rfl; have hcz24_1 : w21.cell? ⟨gb199, 1, none⟩ = some (.int .i64 0) := (blk_cell BK199.out 1).trans rfl; have hcz24_2 : w21.cell? ⟨gb199, 2, none⟩ = some (.int .i64 0) := (blk_cell BK199.out 2).trans rfl; have hcz24_3 : w21.cell? ⟨gb199, 3, none⟩ = some (.int .i64 0) := (blk_cell BK199.out 3).trans rfl; have hcz24_4 : w21.cell? ⟨gb199, 4, none⟩ = some (.slice none 0 0) := (blk_cell BK199.out 4).trans rfl; have hfz24_0 := blk_frozen BK199.out 0; have hfz24_1 := blk_frozen BK199.out 1; have hfz24_2 := blk_frozen BK199.out 2; have hfz24_3 := blk_frozen BK199.out 3; have hfz24_4 := blk_frozen BK199.out 4; obtain ⟨Ao25, co25, eo25⟩ := Kd.R_slice HO198.out; subst eo25)))
    (try simp only [Act.put, List.setIfInBounds_toArray, List.set_cons_zero, List.set_cons_succ])
    go_cut [] (fun wc => ∃ (kq : Nat) (x200000_9 : Int) (x200001_9 : Int) (x200002_9 : Int) (x200003_9 : Int) (x200004_9 : List Bool) (u200004 : Value), Aside0 (morphology_perform.j0 kq ji7 ji8 l3 x200000_9 x200001_9 x200002_9 x200003_9 x200004_9 = some (r1, r2, r3, r4)) ∧ Aside0 (kq ≤ k) ∧ Aside0 (Kd.R Kd.bool 4 wc w.heap.size (fun _ => True) u200004 x200004_9) ∧ Aside0 (wc.heap[gb186]? = some (.cells #[.int .i64 a0_0, .int .i64 a0_1, (.slice A0_2 l0_2.length c0_2)] 24 (0, 0))) ∧ Aside0 (wc.heap[gb187]? = some (.cells #[.int .i64 0, .int .i64 0, (.slice none 0 0)] 24 (0, 0))) ∧ Aside0 (wc.heap[gb199]? = some (.cells #[.int .i64 x200000_9, .int .i64 x200001_9, .int .i64 x200002_9, .int .i64 x200003_9, u200004] 50 (0, 0))) ∧ Aside0 (Below w.heap.size w wc))
    case first =>
      have H := HC10.out
      clear HC10
      by_cases c26 : (l3.length : Int) > 1
      · rw [if_pos c26] at H
        have c26b0 : decide (1 < (l3.length : Int)) = true := decide_eq_true c26
        have c26b1 : decide (1 < l3.length) = true := decide_eq_true (by omega)
        clear c26
        (first | rw [c26b0] | (simp only [i64_w, i32_w]; rw [c26b0]) | skip)
        replace H := Option.bind_eq_some_iff.mp H
        obtain ⟨⟨t200, t201, t202, t203, t204⟩, A270, H⟩ := H
        replace H : (morphology_perform.j0 k ji7 ji8 l3 t200 t201 t202 t203 t204) = some (r1, r2, r3, r4) := H
        have A27 := Aside0.mk A270
        clear A270
        have H' := Aside0.mk H
        clear H
        have hnb28 := NB186_187.out
        have hnc28 := NB187_186.out
        have hnb29 := NB186_199.out
        have hnc29 := NB199_186.out
        have hcz30_0 : w21.cell? ⟨gb186, 0, none⟩ = some (.int .i64 a0_0) := (blk_cell BK186.out 0).trans rfl
        have hcz30_1 : w21.cell? ⟨gb186, 1, none⟩ = some (.int .i64 a0_1) := (blk_cell BK186.out 1).trans rfl
        have hcz30_2 : w21.cell? ⟨gb186, 2, none⟩ = some (.slice A0_2 l0_2.length c0_2) := (blk_cell BK186.out 2).trans rfl
        have hfz30_0 := blk_frozen BK186.out 0
        have hfz30_1 := blk_frozen BK186.out 1
        have hfz30_2 := blk_frozen BK186.out 2
        go_wp2_with (first | (go_at_call 36; (with_reducible refine (morphology_planeOf.calls k a0_0 a0_1 _ _ l0_2 ji7 ji8 t200 t201 t202 t203 t204 _ ?side1 ?side2 A27.out).mono ?_); (case side1 => exact Kd.C_below HR0_2.out (hb3 HB GE186 GE187 GE199)); (case side2 => exact HC0_2.out); rintro e w31 ⟨v205, rfl, ho0, hb⟩; have n0_ := Aside0.mk (Kd.R_below (by refine rkt ?_; exact (Kd.R_mono (Kd.R_far (p := ⟨gb199, 4, none⟩) (Kd.R_far (p := ⟨gb199, 3, none⟩) (Kd.R_far (p := ⟨gb199, 2, none⟩) (Kd.R_far (p := ⟨gb199, 1, none⟩) (Kd.R_far (p := ⟨gb199, 0, none⟩) (Kd.R_types HO190.out BK199.out (by decide)) (fun _ hk => hk.2) (.int .i64 t192)) (fun _ hk => hk.2) (.int .i64 t193)) (fun _ hk => hk.2) (.int .i64 t194)) (fun _ hk => hk.2) (.int .i64 t195)) (fun _ hk => hk.2) (.slice Ao25 t196.length co25)) (fun _ h_ => h_.1))) hb); have n1_ := Aside0.mk (Kd.R_elder' (by refine rkt ?_; exact (Kd.R_mono (Kd.R_far (p := ⟨gb199, 4, none⟩) (Kd.R_far (p := ⟨gb199, 3, none⟩) (Kd.R_far (p := ⟨gb199, 2, none⟩) (Kd.R_far (p := ⟨gb199, 1, none⟩) (Kd.R_far (p := ⟨gb199, 0, none⟩) (Kd.R_types HO198.out BK199.out (by decide)) (fun _ hk => hk.2) (.int .i64 t192)) (fun _ hk => hk.2) (.int .i64 t193)) (fun _ hk => hk.2) (.int .i64 t194)) (fun _ hk => hk.2) (.int .i64 t195)) (fun _ hk => hk.2) (.slice Ao25 t196.length co25)) (fun _ h_ => h_.1))) (Kd.R_base ho0) hb); have n2_ := Aside0.mk (Kd.R_lower (Kd.R_new' ho0 (Kd.R_lt (by refine rkt ?_; exact (Kd.R_mono (Kd.R_far (p := ⟨gb199, 4, none⟩) (Kd.R_far (p := ⟨gb199, 3, none⟩) (Kd.R_far (p := ⟨gb199, 2, none⟩) (Kd.R_far (p := ⟨gb199, 1, none⟩) (Kd.R_far (p := ⟨gb199, 0, none⟩) (Kd.R_types HO198.out BK199.out (by decide)) (fun _ hk => hk.2) (.int .i64 t192)) (fun _ hk => hk.2) (.int .i64 t193)) (fun _ hk => hk.2) (.int .i64 t194)) (fun _ hk => hk.2) (.int .i64 t195)) (fun _ hk => hk.2) (.slice Ao25 t196.length co25)) (fun _ h_ => h_.1))))) (below_size (hb3 HB GE186 GE187 GE199))); have n3_ := Aside0.mk (blk_below (g := gb186) (o := .cells #[.int .i64 a0_0, .int .i64 a0_1, .slice A0_2 l0_2.length c0_2] 24 (0, 0)) (bky BK186 NB186_199) hb); have n4_ := Aside0.mk (blk_below (g := gb187) (o := .cells #[.int .i64 0, .int .i64 0, .slice none 0 0] 24 (0, 0)) (bky BK187 NB187_199) hb); have n5_ := Aside0.mk (blk_below (g := gb199) (o := .cells #[.int .i64 t192, .int .i64 t193, .int .i64 t194, .int .i64 t195, .slice Ao25 t196.length co25] 50 (0, 0)) (by refine bkt ?_; refine blk_put (cs := #[.int .i64 t192, .int .i64 t193, .int .i64 t194, .int .i64 t195, .slice none 0 0]) ?_ 4 _ rfl; refine bkt ?_; refine blk_put (cs := #[.int .i64 t192, .int .i64 t193, .int .i64 t194, .int .i64 0, .slice none 0 0]) ?_ 3 _ rfl; refine bkt ?_; refine blk_put (cs := #[.int .i64 t192, .int .i64 t193, .int .i64 0, .int .i64 0, .slice none 0 0]) ?_ 2 _ rfl; refine bkt ?_; refine blk_put (cs := #[.int .i64 t192, .int .i64 0, .int .i64 0, .int .i64 0, .slice none 0 0]) ?_ 1 _ rfl; refine bkt ?_; refine blk_put (cs := #[.int .i64 0, .int .i64 0, .int .i64 0, .int .i64 0, .slice none 0 0]) ?_ 0 _ rfl; refine bkt ?_; exact BK199.out) hb); have n6_ := Aside0.mk (below_step (hb3 HB GE186 GE187 GE199) hb); clear HO190; clear HO198; clear BK186; clear BK187; clear BK199; clear HB; have HO190 := n0_; have HO198 := n1_; have HO206 := n2_; have BK186 := n3_; have BK187 := n4_; have BK199 := n5_; have HB := n6_; clear n0_ n1_ n2_ n3_ n4_ n5_ n6_; (try clear hb); (try clear hb2); (try clear hk); (try clear hi); (try clear ho0); have hnb32 := NB199_187.out; have hnc32 := NB187_199.out; have hcz33_0 : w31.cell? ⟨gb199, 0, none⟩ = some (.int .i64 t192) := (blk_cell BK199.out 0).trans rfl; have hcz33_1 : w31.cell? ⟨gb199, 1, none⟩ = some (.int .i64 t193) := (blk_cell BK199.out 1).trans rfl; have hcz33_2 : w31.cell? ⟨gb199, 2, none⟩ = some (.int .i64 t194) := (blk_cell BK199.out 2).trans rfl; have hcz33_3 : w31.cell? ⟨gb199, 3, none⟩ = some (.int .i64 t195) := (blk_cell BK199.out 3).trans rfl; have hcz33_4 : w31.cell? ⟨gb199, 4, none⟩ = some (.slice Ao25 t196.length co25) := (blk_cell BK199.out 4).trans rfl; have hfz33_0 := blk_frozen BK199.out 0; have hfz33_1 := blk_frozen BK199.out 1; have hfz33_2 := blk_frozen BK199.out 2; have hfz33_3 := blk_frozen BK199.out 3; have hfz33_4 := blk_frozen BK199.out 4; obtain ⟨Ao34, co34, eo34⟩ := Kd.R_slice HO206.out; subst eo34))
        repeat (go_quiet (first | (go_at_call 36; (with_reducible refine (morphology_planeOf.calls k a0_0 a0_1 _ _ l0_2 ji7 ji8 t200 t201 t202 t203 t204 _ ?side1 ?side2 A27.out).mono ?_); (case side1 => exact Kd.C_below HR0_2.out (hb3 HB GE186 GE187 GE199)); (case side2 => exact HC0_2.out); rintro e w31 ⟨v205, rfl, ho0, hb⟩; have n0_ := Aside0.mk (Kd.R_below (by refine rkt ?_; exact (Kd.R_mono (Kd.R_far (p := ⟨gb199, 4, none⟩) (Kd.R_far (p := ⟨gb199, 3, none⟩) (Kd.R_far (p := ⟨gb199, 2, none⟩) (Kd.R_far (p := ⟨gb199, 1, none⟩) (Kd.R_far (p := ⟨gb199, 0, none⟩) (Kd.R_types HO190.out BK199.out (by decide)) (fun _ hk => hk.2) (.int .i64 t192)) (fun _ hk => hk.2) (.int .i64 t193)) (fun _ hk => hk.2) (.int .i64 t194)) (fun _ hk => hk.2) (.int .i64 t195)) (fun _ hk => hk.2) (.slice Ao25 t196.length co25)) (fun _ h_ => h_.1))) hb); have n1_ := Aside0.mk (Kd.R_elder' (by refine rkt ?_; exact (Kd.R_mono (Kd.R_far (p := ⟨gb199, 4, none⟩) (Kd.R_far (p := ⟨gb199, 3, none⟩) (Kd.R_far (p := ⟨gb199, 2, none⟩) (Kd.R_far (p := ⟨gb199, 1, none⟩) (Kd.R_far (p := ⟨gb199, 0, none⟩) (Kd.R_types HO198.out BK199.out (by decide)) (fun _ hk => hk.2) (.int .i64 t192)) (fun _ hk => hk.2) (.int .i64 t193)) (fun _ hk => hk.2) (.int .i64 t194)) (fun _ hk => hk.2) (.int .i64 t195)) (fun _ hk => hk.2) (.slice Ao25 t196.length co25)) (fun _ h_ => h_.1))) (Kd.R_base ho0) hb); have n2_ := Aside0.mk (Kd.R_lower (Kd.R_new' ho0 (Kd.R_lt (by refine rkt ?_; exact (Kd.R_mono (Kd.R_far (p := ⟨gb199, 4, none⟩) (Kd.R_far (p := ⟨gb199, 3, none⟩) (Kd.R_far (p := ⟨gb199, 2, none⟩) (Kd.R_far (p := ⟨gb199, 1, none⟩) (Kd.R_far (p := ⟨gb199, 0, none⟩) (Kd.R_types HO198.out BK199.out (by decide)) (fun _ hk => hk.2) (.int .i64 t192)) (fun _ hk => hk.2) (.int .i64 t193)) (fun _ hk => hk.2) (.int .i64 t194)) (fun _ hk => hk.2) (.int .i64 t195)) (fun _ hk => hk.2) (.slice Ao25 t196.length co25)) (fun _ h_ => h_.1))))) (below_size (hb3 HB GE186 GE187 GE199))); have n3_ := Aside0.mk (blk_below (g := gb186) (o := .cells #[.int .i64 a0_0, .int .i64 a0_1, .slice A0_2 l0_2.length c0_2] 24 (0, 0)) (bky BK186 NB186_199) hb); have n4_ := Aside0.mk (blk_below (g := gb187) (o := .cells #[.int .i64 0, .int .i64 0, .slice none 0 0] 24 (0, 0)) (bky BK187 NB187_199) hb); have n5_ := Aside0.mk (blk_below (g := gb199) (o := .cells #[.int .i64 t192, .int .i64 t193, .int .i64 t194, .int .i64 t195, .slice Ao25 t196.length co25] 50 (0, 0)) (by refine bkt ?_; refine blk_put (cs := #[.int .i64 t192, .int .i64 t193, .int .i64 t194, .int .i64 t195, .slice none 0 0]) ?_ 4 _ rfl; refine bkt ?_; refine blk_put (cs := #[.int .i64 t192, .int .i64 t193, .int .i64 t194, .int .i64 0, .slice none 0 0]) ?_ 3 _ rfl; refine bkt ?_; refine blk_put (cs := #[.int .i64 t192, .int .i64 t193, .int .i64 0, .int .i64 0, .slice none 0 0]) ?_ 2 _ rfl; refine bkt ?_; refine blk_put (cs := #[.int .i64 t192, .int .i64 0, .int .i64 0, .int .i64 0, .slice none 0 0]) ?_ 1 _ rfl; refine bkt ?_; refine blk_put (cs := #[.int .i64 0, .int .i64 0, .int .i64 0, .int .i64 0, .slice none 0 0]) ?_ 0 _ rfl; refine bkt ?_; exact BK199.out) hb); have n6_ := Aside0.mk (below_step (hb3 HB GE186 GE187 GE199) hb); clear HO190; clear HO198; clear BK186; clear BK187; clear BK199; clear HB; have HO190 := n0_; have HO198 := n1_; have HO206 := n2_; have BK186 := n3_; have BK187 := n4_; have BK199 := n5_; have HB := n6_; clear n0_ n1_ n2_ n3_ n4_ n5_ n6_; (try clear hb); (try clear hb2); (try clear hk); (try clear hi); (try clear ho0); have hnb32 := NB199_187.out; have hnc32 := NB187_199.out; have hcz33_0 : w31.cell? ⟨gb199, 0, none⟩ = some (.int .i64 t192) := (blk_cell BK199.out 0).trans rfl; have hcz33_1 : w31.cell? ⟨gb199, 1, none⟩ = some (.int .i64 t193) := (blk_cell BK199.out 1).trans rfl; have hcz33_2 : w31.cell? ⟨gb199, 2, none⟩ = some (.int .i64 t194) := (blk_cell BK199.out 2).trans rfl; have hcz33_3 : w31.cell? ⟨gb199, 3, none⟩ = some (.int .i64 t195) := (blk_cell BK199.out 3).trans rfl; have hcz33_4 : w31.cell? ⟨gb199, 4, none⟩ = some (.slice Ao25 t196.length co25) := (blk_cell BK199.out 4).trans rfl; have hfz33_0 := blk_frozen BK199.out 0; have hfz33_1 := blk_frozen BK199.out 1; have hfz33_2 := blk_frozen BK199.out 2; have hfz33_3 := blk_frozen BK199.out 3; have hfz33_4 := blk_frozen BK199.out 4; obtain ⟨Ao34, co34, eo34⟩ := Kd.R_slice HO206.out; subst eo34)); try go_wp2_with (first | (go_at_call 36; (with_reducible refine (morphology_planeOf.calls k a0_0 a0_1 _ _ l0_2 ji7 ji8 t200 t201 t202 t203 t204 _ ?side1 ?side2 A27.out).mono ?_); (case side1 => exact Kd.C_below HR0_2.out (hb3 HB GE186 GE187 GE199)); (case side2 => exact HC0_2.out); rintro e w31 ⟨v205, rfl, ho0, hb⟩; have n0_ := Aside0.mk (Kd.R_below (by refine rkt ?_; exact (Kd.R_mono (Kd.R_far (p := ⟨gb199, 4, none⟩) (Kd.R_far (p := ⟨gb199, 3, none⟩) (Kd.R_far (p := ⟨gb199, 2, none⟩) (Kd.R_far (p := ⟨gb199, 1, none⟩) (Kd.R_far (p := ⟨gb199, 0, none⟩) (Kd.R_types HO190.out BK199.out (by decide)) (fun _ hk => hk.2) (.int .i64 t192)) (fun _ hk => hk.2) (.int .i64 t193)) (fun _ hk => hk.2) (.int .i64 t194)) (fun _ hk => hk.2) (.int .i64 t195)) (fun _ hk => hk.2) (.slice Ao25 t196.length co25)) (fun _ h_ => h_.1))) hb); have n1_ := Aside0.mk (Kd.R_elder' (by refine rkt ?_; exact (Kd.R_mono (Kd.R_far (p := ⟨gb199, 4, none⟩) (Kd.R_far (p := ⟨gb199, 3, none⟩) (Kd.R_far (p := ⟨gb199, 2, none⟩) (Kd.R_far (p := ⟨gb199, 1, none⟩) (Kd.R_far (p := ⟨gb199, 0, none⟩) (Kd.R_types HO198.out BK199.out (by decide)) (fun _ hk => hk.2) (.int .i64 t192)) (fun _ hk => hk.2) (.int .i64 t193)) (fun _ hk => hk.2) (.int .i64 t194)) (fun _ hk => hk.2) (.int .i64 t195)) (fun _ hk => hk.2) (.slice Ao25 t196.length co25)) (fun _ h_ => h_.1))) (Kd.R_base ho0) hb); have n2_ := Aside0.mk (Kd.R_lower (Kd.R_new' ho0 (Kd.R_lt (by refine rkt ?_; exact (Kd.R_mono (Kd.R_far (p := ⟨gb199, 4, none⟩) (Kd.R_far (p := ⟨gb199, 3, none⟩) (Kd.R_far (p := ⟨gb199, 2, none⟩) (Kd.R_far (p := ⟨gb199, 1, none⟩) (Kd.R_far (p := ⟨gb199, 0, none⟩) (Kd.R_types HO198.out BK199.out (by decide)) (fun _ hk => hk.2) (.int .i64 t192)) (fun _ hk => hk.2) (.int .i64 t193)) (fun _ hk => hk.2) (.int .i64 t194)) (fun _ hk => hk.2) (.int .i64 t195)) (fun _ hk => hk.2) (.slice Ao25 t196.length co25)) (fun _ h_ => h_.1))))) (below_size (hb3 HB GE186 GE187 GE199))); have n3_ := Aside0.mk (blk_below (g := gb186) (o := .cells #[.int .i64 a0_0, .int .i64 a0_1, .slice A0_2 l0_2.length c0_2] 24 (0, 0)) (bky BK186 NB186_199) hb); have n4_ := Aside0.mk (blk_below (g := gb187) (o := .cells #[.int .i64 0, .int .i64 0, .slice none 0 0] 24 (0, 0)) (bky BK187 NB187_199) hb); have n5_ := Aside0.mk (blk_below (g := gb199) (o := .cells #[.int .i64 t192, .int .i64 t193, .int .i64 t194, .int .i64 t195, .slice Ao25 t196.length co25] 50 (0, 0)) (by refine bkt ?_; refine blk_put (cs := #[.int .i64 t192, .int .i64 t193, .int .i64 t194, .int .i64 t195, .slice none 0 0]) ?_ 4 _ rfl; refine bkt ?_; refine blk_put (cs := #[.int .i64 t192, .int .i64 t193, .int .i64 t194, .int .i64 0, .slice none 0 0]) ?_ 3 _ rfl; refine bkt ?_; refine blk_put (cs := #[.int .i64 t192, .int .i64 t193, .int .i64 0, .int .i64 0, .slice none 0 0]) ?_ 2 _ rfl; refine bkt ?_; refine blk_put (cs := #[.int .i64 t192, .int .i64 0, .int .i64 0, .int .i64 0, .slice none 0 0]) ?_ 1 _ rfl; refine bkt ?_; refine blk_put (cs := #[.int .i64 0, .int .i64 0, .int .i64 0, .int .i64 0, .slice none 0 0]) ?_ 0 _ rfl; refine bkt ?_; exact BK199.out) hb); have n6_ := Aside0.mk (below_step (hb3 HB GE186 GE187 GE199) hb); clear HO190; clear HO198; clear BK186; clear BK187; clear BK199; clear HB; have HO190 := n0_; have HO198 := n1_; have HO206 := n2_; have BK186 := n3_; have BK187 := n4_; have BK199 := n5_; have HB := n6_; clear n0_ n1_ n2_ n3_ n4_ n5_ n6_; (try clear hb); (try clear hb2); (try clear hk); (try clear hi); (try clear ho0); have hnb32 := NB199_187.out; have hnc32 := NB187_199.out; have hcz33_0 : w31.cell? ⟨gb199, 0, none⟩ = some (.int .i64 t192) := (blk_cell BK199.out 0).trans rfl; have hcz33_1 : w31.cell? ⟨gb199, 1, none⟩ = some (.int .i64 t193) := (blk_cell BK199.out 1).trans rfl; have hcz33_2 : w31.cell? ⟨gb199, 2, none⟩ = some (.int .i64 t194) := (blk_cell BK199.out 2).trans rfl; have hcz33_3 : w31.cell? ⟨gb199, 3, none⟩ = some (.int .i64 t195) := (blk_cell BK199.out 3).trans rfl; have hcz33_4 : w31.cell? ⟨gb199, 4, none⟩ = some (.slice Ao25 t196.length co25) := (blk_cell BK199.out 4).trans rfl; have hfz33_0 := blk_frozen BK199.out 0; have hfz33_1 := blk_frozen BK199.out 1; have hfz33_2 := blk_frozen BK199.out 2; have hfz33_3 := blk_frozen BK199.out 3; have hfz33_4 := blk_frozen BK199.out 4; obtain ⟨Ao34, co34, eo34⟩ := Kd.R_slice HO206.out; subst eo34)))
        go_meet
        case rel => exact ⟨_, (t200), (t201), (t202), (t203), (t204), (.slice Ao34 t204.length co34), H', ⟨by first | omega | exact Nat.le_refl _⟩, ⟨by refine rkt ?_; exact Kd.R_mono (Kd.R_far (p := ⟨gb199, 4, none⟩) (Kd.R_far (p := ⟨gb199, 3, none⟩) (Kd.R_far (p := ⟨gb199, 2, none⟩) (Kd.R_far (p := ⟨gb199, 1, none⟩) (Kd.R_far (p := ⟨gb199, 0, none⟩) (Kd.R_types HO206.out BK199.out (by decide)) (fun _ hk => hk.2) (.int .i64 t200)) (fun _ hk => hk.2) (.int .i64 t201)) (fun _ hk => hk.2) (.int .i64 t202)) (fun _ hk => hk.2) (.int .i64 t203)) (fun _ hk => hk.2) (.slice Ao34 t204.length co34)) (fun _ hk => trivial)⟩, ⟨bky BK186 NB186_199⟩, ⟨bky BK187 NB187_199⟩, ⟨by refine bkt ?_; refine blk_put (cs := #[.int .i64 t200, .int .i64 t201, .int .i64 t202, .int .i64 t203, .slice Ao25 t196.length co25]) ?_ 4 _ rfl; refine bkt ?_; refine blk_put (cs := #[.int .i64 t200, .int .i64 t201, .int .i64 t202, .int .i64 t195, .slice Ao25 t196.length co25]) ?_ 3 _ rfl; refine bkt ?_; refine blk_put (cs := #[.int .i64 t200, .int .i64 t201, .int .i64 t194, .int .i64 t195, .slice Ao25 t196.length co25]) ?_ 2 _ rfl; refine bkt ?_; refine blk_put (cs := #[.int .i64 t200, .int .i64 t193, .int .i64 t194, .int .i64 t195, .slice Ao25 t196.length co25]) ?_ 1 _ rfl; refine bkt ?_; refine blk_put (cs := #[.int .i64 t192, .int .i64 t193, .int .i64 t194, .int .i64 t195, .slice Ao25 t196.length co25]) ?_ 0 _ rfl; refine bkt ?_; exact BK199.out⟩, ⟨hb3 HB GE186 GE187 GE199⟩⟩
      · rw [if_neg c26] at H
        have c26b0 : decide (1 < (l3.length : Int)) = false := decide_eq_false c26
        have c26b1 : decide (1 < l3.length) = false := decide_eq_false (by omega)
        clear c26
        (first | rw [c26b0] | (simp only [i64_w, i32_w]; rw [c26b0]) | skip)
        have H' := Aside0.mk H
        clear H
        go_wp2
        repeat (go_quiet (fail); try go_wp2)
        go_meet
        case rel => exact ⟨_, (t192), (t193), (t194), (t195), (t196), (.slice Ao25 t196.length co25), H', ⟨by first | omega | exact Nat.le_refl _⟩, ⟨by refine rkt ?_; exact Kd.R_mono (Kd.R_far (p := ⟨gb199, 4, none⟩) (Kd.R_far (p := ⟨gb199, 3, none⟩) (Kd.R_far (p := ⟨gb199, 2, none⟩) (Kd.R_far (p := ⟨gb199, 1, none⟩) (Kd.R_far (p := ⟨gb199, 0, none⟩) (Kd.R_types HO198.out BK199.out (by decide)) (fun _ hk => hk.2) (.int .i64 t192)) (fun _ hk => hk.2) (.int .i64 t193)) (fun _ hk => hk.2) (.int .i64 t194)) (fun _ hk => hk.2) (.int .i64 t195)) (fun _ hk => hk.2) (.slice Ao25 t196.length co25)) (fun _ hk => trivial)⟩, ⟨bky BK186 NB186_199⟩, ⟨bky BK187 NB187_199⟩, ⟨by refine bkt ?_; refine blk_put (cs := #[.int .i64 t192, .int .i64 t193, .int .i64 t194, .int .i64 t195, .slice none 0 0]) ?_ 4 _ rfl; refine bkt ?_; refine blk_put (cs := #[.int .i64 t192, .int .i64 t193, .int .i64 t194, .int .i64 0, .slice none 0 0]) ?_ 3 _ rfl; refine bkt ?_; refine blk_put (cs := #[.int .i64 t192, .int .i64 t193, .int .i64 0, .int .i64 0, .slice none 0 0]) ?_ 2 _ rfl; refine bkt ?_; refine blk_put (cs := #[.int .i64 t192, .int .i64 0, .int .i64 0, .int .i64 0, .slice none 0 0]) ?_ 1 _ rfl; refine bkt ?_; refine blk_put (cs := #[.int .i64 0, .int .i64 0, .int .i64 0, .int .i64 0, .slice none 0 0]) ?_ 0 _ rfl; refine bkt ?_; exact BK199.out⟩, ⟨hb3 HB GE186 GE187 GE199⟩⟩
    case rest =>
      clear HC10
      try clear c1
      try clear c2
      try clear p2
      try clear c3
      try clear c6
      try clear c6b0
      try clear c6b1
      try clear c13
      try clear c22
      try clear c23
      try clear c26
      try clear c26b0
      try clear c26b1
      try clear c28
      try clear c29
      try clear c30
      try clear c32
      try clear hcz14_0
      try clear hcz14_1
      try clear hcz14_2
      try clear hcz19_0
      try clear hcz19_1
      try clear hcz19_2
      try clear hcz24_0
      try clear hcz24_1
      try clear hcz24_2
      try clear hcz24_3
      try clear hcz24_4
      try clear hcz30_0
      try clear hcz30_1
      try clear hcz30_2
      try clear hcz33_0
      try clear hcz33_1
      try clear hcz33_2
      try clear hcz33_3
      try clear hcz33_4
      try clear hfz14_0
      try clear hfz14_1
      try clear hfz14_2
      try clear hfz19_0
      try clear hfz19_1
      try clear hfz19_2
      try clear hfz24_0
      try clear hfz24_1
      try clear hfz24_2
      try clear hfz24_3
      try clear hfz24_4
      try clear hfz30_0
      try clear hfz30_1
      try clear hfz30_2
      try clear hfz33_0
      try clear hfz33_1
      try clear hfz33_2
      try clear hfz33_3
      try clear hfz33_4
      obtain ⟨kq, x200000_9, x200001_9, x200002_9, x200003_9, x200004_9, u200004, HA, HJ9, HO_200004, BK186, BK187, BK199, HB⟩ := hcut
      cases kq with
      | zero => exact absurd HA.out (by simp [morphology_perform.j0])
      | succ kj9 =>
        have H := HA.out
        clear HA
        simp only [morphology_perform.j0] at H
        have H' := Aside0.mk H
        clear H
        go_wp2
        repeat (go_quiet (fail); try go_wp2)
        go_loopg [42] kj9 (fun kq v42 w' => ∃ (x42_2 : Int) (x200000_2 : Int) (x200001_2 : Int) (x200002_2 : Int) (x200003_2 : Int) (x200004_2 : List Bool) (u200004 : Value), v42 = .int .i64 x42_2 ∧ Aside0 (morphology_perform.l0 kq ji7 ji8 l3 (l3.length : Int) x42_2 x200000_2 x200001_2 x200002_2 x200003_2 x200004_2 = some (r1, r2, r3, r4)) ∧ Aside0 (kq ≤ kj9) ∧ Aside0 (Kd.R Kd.bool 4 w' w.heap.size (fun _ => True) u200004 x200004_2) ∧ Aside0 (w'.heap[gb186]? = some (.cells #[.int .i64 a0_0, .int .i64 a0_1, (.slice A0_2 l0_2.length c0_2)] 24 (0, 0))) ∧ Aside0 (w'.heap[gb187]? = some (.cells #[.int .i64 0, .int .i64 0, (.slice none 0 0)] 24 (0, 0))) ∧ Aside0 (w'.heap[gb199]? = some (.cells #[.int .i64 x200000_2, .int .i64 x200001_2, .int .i64 x200002_2, .int .i64 x200003_2, u200004] 50 (0, 0))) ∧ Aside0 (Below w.heap.size w w'))
        case atStart => exact ⟨(0), (x200000_9), (x200001_9), (x200002_9), (x200003_9), (x200004_9), (u200004), (by first | rfl | (simp; done) | (simp [*]; done)), H', ⟨Nat.le_refl _⟩, ⟨rkx HO_200004⟩, ⟨bkx BK186⟩, ⟨bkx BK187⟩, ⟨bkx BK199⟩, ⟨hb3 HB GE186 GE187 GE199⟩⟩
        case round =>
          clear H'
          try clear c1
          try clear c2
          try clear p2
          try clear c3
          try clear c6
          try clear c6b0
          try clear c6b1
          try clear c13
          try clear c22
          try clear c23
          try clear c26
          try clear c26b0
          try clear c26b1
          try clear c28
          try clear c29
          try clear c30
          try clear c32
          try clear hcz14_0
          try clear hcz14_1
          try clear hcz14_2
          try clear hcz19_0
          try clear hcz19_1
          try clear hcz19_2
          try clear hcz24_0
          try clear hcz24_1
          try clear hcz24_2
          try clear hcz24_3
          try clear hcz24_4
          try clear hcz30_0
          try clear hcz30_1
          try clear hcz30_2
          try clear hcz33_0
          try clear hcz33_1
          try clear hcz33_2
          try clear hcz33_3
          try clear hcz33_4
          try clear hfz14_0
          try clear hfz14_1
          try clear hfz14_2
          try clear hfz19_0
          try clear hfz19_1
          try clear hfz19_2
          try clear hfz24_0
          try clear hfz24_1
          try clear hfz24_2
          try clear hfz24_3
          try clear hfz24_4
          try clear hfz30_0
          try clear hfz30_1
          try clear hfz30_2
          try clear hfz33_0
          try clear hfz33_1
          try clear hfz33_2
          try clear hfz33_3
          try clear hfz33_4
          try clear p2
          obtain ⟨x42_2, x200000_2, x200001_2, x200002_2, x200003_2, x200004_2, u200004, rfl, HA, HK2, HO_200004, BK186, BK187, BK199, HB⟩ := hrel
          cases gk with
          | zero => exact absurd HA.out (by simp [morphology_perform.l0])
          | succ k2 =>
            have H := HA.out
            clear HA
            simp only [morphology_perform.l0] at H
            by_cases c35 : x42_2 < (l3.length : Int)
            · rw [if_pos c35] at H
              have c35b0 : decide (x42_2 < (l3.length : Int)) = true := decide_eq_true c35
              clear c35
              by_cases c36 : 0 ≤ x42_2
              · rw [if_pos c36] at H
                have c36b0 : decide (0 ≤ x42_2) = true := decide_eq_true c36
                clear c36
                by_cases c37 : x42_2 < (l3.length : Int)
                · rw [if_pos c37] at H
                  have c37b0 : decide (x42_2 < (l3.length : Int)) = true := decide_eq_true c37
                  clear c37
                  replace H := Option.bind_eq_some_iff.mp H
                  obtain ⟨⟨t208, t209, t210, t211, t212⟩, A380, H⟩ := H
                  replace H : (morphology_perform.l0 k2 ji7 ji8 l3 (l3.length : Int) (wrap64 (x42_2 + 1)) t208 t209 t210 t211 t212) = some (r1, r2, r3, r4) := H
                  have A38 := Aside0.mk A380
                  clear A380
                  have H' := Aside0.mk H
                  clear H
                  have p207 : 0 ≤ (x42_2 : Int) := of_decide_eq_true (by first | (with_reducible assumption) | assumption)
                  have q207 : x42_2 < (l3.length : Int) := of_decide_eq_true (by first | (with_reducible assumption) | assumption)
                  obtain ⟨ad207, e207, hx207_0⟩ := Kd.at_fn HR3.out x42_2 p207 q207
                  cases e207
                  replace hx207_0 := (HB.out.cell (World.block_lt_of_cell? w _ hx207_0)).trans hx207_0
                  replace p207 := eq_true p207
                  replace q207 := eq_true q207
                  have hnb39 := NB199_186.out
                  have hnc39 := NB186_199.out
                  have hnb40 := NB199_187.out
                  have hnc40 := NB187_199.out
                  have hcz41_0 : wr.cell? ⟨gb199, 0, none⟩ = some (.int .i64 x200000_2) := (blk_cell BK199.out 0).trans rfl
                  have hcz41_1 : wr.cell? ⟨gb199, 1, none⟩ = some (.int .i64 x200001_2) := (blk_cell BK199.out 1).trans rfl
                  have hcz41_2 : wr.cell? ⟨gb199, 2, none⟩ = some (.int .i64 x200002_2) := (blk_cell BK199.out 2).trans rfl
                  have hcz41_3 : wr.cell? ⟨gb199, 3, none⟩ = some (.int .i64 x200003_2) := (blk_cell BK199.out 3).trans rfl
                  have hcz41_4 : wr.cell? ⟨gb199, 4, none⟩ = some (u200004) := (blk_cell BK199.out 4).trans rfl
                  have hfz41_0 := blk_frozen BK199.out 0
                  have hfz41_1 := blk_frozen BK199.out 1
                  have hfz41_2 := blk_frozen BK199.out 2
                  have hfz41_3 := blk_frozen BK199.out 3
                  have hfz41_4 := blk_frozen BK199.out 4
                  obtain ⟨Ao42, co42, eo42⟩ := Kd.R_slice HO_200004.out
                  subst eo42
                  go_wp2_with (first | (go_at_call 37; (refine (morphology_plane_transform.calls k2 x200000_2 x200001_2 x200002_2 x200003_2 _ _ x200004_2 ji7 ji8 (rdOf 0 l3 x42_2) t208 t209 t210 t211 t212 _ ?side1 ?side2 A38.out).mono ?_); (case side1 => repeat (first | exact (Kd.R_reads' HO_200004.out).2.2 | (with_reducible refine Kd.C_alloc ?_ _) | (with_reducible refine Kd.C_drewN ?_ _) | (with_reducible refine Kd.C_drew ?_))); (case side2 => exact (Kd.R_reads' HO_200004.out).2.1); rintro e w43 ⟨v213, rfl, ho0, hb⟩; have n0_ := Aside0.mk (Kd.R_elder' (rkx HO_200004) (Kd.R_base ho0) hb); have n1_ := Aside0.mk (Kd.R_lower (Kd.R_new' ho0 (Kd.R_lt (rkx HO_200004))) (below_size (hb3 HB GE186 GE187 GE199))); have n2_ := Aside0.mk (blk_below (bkx BK186) hb); have n3_ := Aside0.mk (blk_below (bkx BK187) hb); have n4_ := Aside0.mk (blk_below (bkx BK199) hb); have n5_ := Aside0.mk (below_step (hb3 HB GE186 GE187 GE199) hb); clear HO_200004; clear BK186; clear BK187; clear BK199; clear HB; have HO_200004 := n0_; have HO214 := n1_; have BK186 := n2_; have BK187 := n3_; have BK199 := n4_; have HB := n5_; clear n0_ n1_ n2_ n3_ n4_ n5_; (try clear hb); (try clear hb2); (try clear hk); (try clear hi); (try clear ho0); have hcz44_0 : w43.cell? ⟨gb199, 0, none⟩ = some (.int .i64 x200000_2) := (blk_cell BK199.out 0).trans rfl; have hcz44_1 : w43.cell? ⟨gb199, 1, none⟩ = some (.int .i64 x200001_2) := (blk_cell BK199.out 1).trans rfl; have hcz44_2 : w43.cell? ⟨gb199, 2, none⟩ = some (.int .i64 x200002_2) := (blk_cell BK199.out 2).trans rfl; have hcz44_3 : w43.cell? ⟨gb199, 3, none⟩ = some (.int .i64 x200003_2) := (blk_cell BK199.out 3).trans rfl; have hcz44_4 : w43.cell? ⟨gb199, 4, none⟩ = some (.slice Ao42 x200004_2.length co42) := (blk_cell BK199.out 4).trans rfl; have hfz44_0 := blk_frozen BK199.out 0; have hfz44_1 := blk_frozen BK199.out 1; have hfz44_2 := blk_frozen BK199.out 2; have hfz44_3 := blk_frozen BK199.out 3; have hfz44_4 := blk_frozen BK199.out 4; obtain ⟨Ao45, co45, eo45⟩ := Kd.R_slice HO214.out; subst eo45))
                  repeat (go_quiet (first | (go_at_call 37; (refine (morphology_plane_transform.calls k2 x200000_2 x200001_2 x200002_2 x200003_2 _ _ x200004_2 ji7 ji8 (rdOf 0 l3 x42_2) t208 t209 t210 t211 t212 _ ?side1 ?side2 A38.out).mono ?_); (case side1 => repeat (first | exact (Kd.R_reads' HO_200004.out).2.2 | (with_reducible refine Kd.C_alloc ?_ _) | (with_reducible refine Kd.C_drewN ?_ _) | (with_reducible refine Kd.C_drew ?_))); (case side2 => exact (Kd.R_reads' HO_200004.out).2.1); rintro e w43 ⟨v213, rfl, ho0, hb⟩; have n0_ := Aside0.mk (Kd.R_elder' (rkx HO_200004) (Kd.R_base ho0) hb); have n1_ := Aside0.mk (Kd.R_lower (Kd.R_new' ho0 (Kd.R_lt (rkx HO_200004))) (below_size (hb3 HB GE186 GE187 GE199))); have n2_ := Aside0.mk (blk_below (bkx BK186) hb); have n3_ := Aside0.mk (blk_below (bkx BK187) hb); have n4_ := Aside0.mk (blk_below (bkx BK199) hb); have n5_ := Aside0.mk (below_step (hb3 HB GE186 GE187 GE199) hb); clear HO_200004; clear BK186; clear BK187; clear BK199; clear HB; have HO_200004 := n0_; have HO214 := n1_; have BK186 := n2_; have BK187 := n3_; have BK199 := n4_; have HB := n5_; clear n0_ n1_ n2_ n3_ n4_ n5_; (try clear hb); (try clear hb2); (try clear hk); (try clear hi); (try clear ho0); have hcz44_0 : w43.cell? ⟨gb199, 0, none⟩ = some (.int .i64 x200000_2) := (blk_cell BK199.out 0).trans rfl; have hcz44_1 : w43.cell? ⟨gb199, 1, none⟩ = some (.int .i64 x200001_2) := (blk_cell BK199.out 1).trans rfl; have hcz44_2 : w43.cell? ⟨gb199, 2, none⟩ = some (.int .i64 x200002_2) := (blk_cell BK199.out 2).trans rfl; have hcz44_3 : w43.cell? ⟨gb199, 3, none⟩ = some (.int .i64 x200003_2) := (blk_cell BK199.out 3).trans rfl; have hcz44_4 : w43.cell? ⟨gb199, 4, none⟩ = some (.slice Ao42 x200004_2.length co42) := (blk_cell BK199.out 4).trans rfl; have hfz44_0 := blk_frozen BK199.out 0; have hfz44_1 := blk_frozen BK199.out 1; have hfz44_2 := blk_frozen BK199.out 2; have hfz44_3 := blk_frozen BK199.out 3; have hfz44_4 := blk_frozen BK199.out 4; obtain ⟨Ao45, co45, eo45⟩ := Kd.R_slice HO214.out; subst eo45)); try go_wp2_with (first | (go_at_call 37; (refine (morphology_plane_transform.calls k2 x200000_2 x200001_2 x200002_2 x200003_2 _ _ x200004_2 ji7 ji8 (rdOf 0 l3 x42_2) t208 t209 t210 t211 t212 _ ?side1 ?side2 A38.out).mono ?_); (case side1 => repeat (first | exact (Kd.R_reads' HO_200004.out).2.2 | (with_reducible refine Kd.C_alloc ?_ _) | (with_reducible refine Kd.C_drewN ?_ _) | (with_reducible refine Kd.C_drew ?_))); (case side2 => exact (Kd.R_reads' HO_200004.out).2.1); rintro e w43 ⟨v213, rfl, ho0, hb⟩; have n0_ := Aside0.mk (Kd.R_elder' (rkx HO_200004) (Kd.R_base ho0) hb); have n1_ := Aside0.mk (Kd.R_lower (Kd.R_new' ho0 (Kd.R_lt (rkx HO_200004))) (below_size (hb3 HB GE186 GE187 GE199))); have n2_ := Aside0.mk (blk_below (bkx BK186) hb); have n3_ := Aside0.mk (blk_below (bkx BK187) hb); have n4_ := Aside0.mk (blk_below (bkx BK199) hb); have n5_ := Aside0.mk (below_step (hb3 HB GE186 GE187 GE199) hb); clear HO_200004; clear BK186; clear BK187; clear BK199; clear HB; have HO_200004 := n0_; have HO214 := n1_; have BK186 := n2_; have BK187 := n3_; have BK199 := n4_; have HB := n5_; clear n0_ n1_ n2_ n3_ n4_ n5_; (try clear hb); (try clear hb2); (try clear hk); (try clear hi); (try clear ho0); have hcz44_0 : w43.cell? ⟨gb199, 0, none⟩ = some (.int .i64 x200000_2) := (blk_cell BK199.out 0).trans rfl; have hcz44_1 : w43.cell? ⟨gb199, 1, none⟩ = some (.int .i64 x200001_2) := (blk_cell BK199.out 1).trans rfl; have hcz44_2 : w43.cell? ⟨gb199, 2, none⟩ = some (.int .i64 x200002_2) := (blk_cell BK199.out 2).trans rfl; have hcz44_3 : w43.cell? ⟨gb199, 3, none⟩ = some (.int .i64 x200003_2) := (blk_cell BK199.out 3).trans rfl; have hcz44_4 : w43.cell? ⟨gb199, 4, none⟩ = some (.slice Ao42 x200004_2.length co42) := (blk_cell BK199.out 4).trans rfl; have hfz44_0 := blk_frozen BK199.out 0; have hfz44_1 := blk_frozen BK199.out 1; have hfz44_2 := blk_frozen BK199.out 2; have hfz44_3 := blk_frozen BK199.out 3; have hfz44_4 := blk_frozen BK199.out 4; obtain ⟨Ao45, co45, eo45⟩ := Kd.R_slice HO214.out; subst eo45)))
                  go_roundg k2
                  case measure => have := HJ9.out; have := HK2.out; omega
                  case rel => exact ⟨(wrap64 (x42_2 + 1)), (t208), (t209), (t210), (t211), (t212), (.slice Ao45 t212.length co45), (by first | rfl | (simp; done) | (simp [*]; done)), H', ⟨by have := HJ9.out; have := HK2.out; omega⟩, ⟨by refine rkt ?_; exact Kd.R_mono (Kd.R_far (p := ⟨gb199, 4, none⟩) (Kd.R_far (p := ⟨gb199, 3, none⟩) (Kd.R_far (p := ⟨gb199, 2, none⟩) (Kd.R_far (p := ⟨gb199, 1, none⟩) (Kd.R_far (p := ⟨gb199, 0, none⟩) (Kd.R_types HO214.out BK199.out (by decide)) (fun _ hk => hk.2) (.int .i64 t208)) (fun _ hk => hk.2) (.int .i64 t209)) (fun _ hk => hk.2) (.int .i64 t210)) (fun _ hk => hk.2) (.int .i64 t211)) (fun _ hk => hk.2) (.slice Ao45 t212.length co45)) (fun _ hk => trivial)⟩, ⟨bky BK186 NB186_199⟩, ⟨bky BK187 NB187_199⟩, ⟨by refine bkt ?_; refine blk_put (cs := #[.int .i64 t208, .int .i64 t209, .int .i64 t210, .int .i64 t211, .slice Ao42 x200004_2.length co42]) ?_ 4 _ rfl; refine bkt ?_; refine blk_put (cs := #[.int .i64 t208, .int .i64 t209, .int .i64 t210, .int .i64 x200003_2, .slice Ao42 x200004_2.length co42]) ?_ 3 _ rfl; refine bkt ?_; refine blk_put (cs := #[.int .i64 t208, .int .i64 t209, .int .i64 x200002_2, .int .i64 x200003_2, .slice Ao42 x200004_2.length co42]) ?_ 2 _ rfl; refine bkt ?_; refine blk_put (cs := #[.int .i64 t208, .int .i64 x200001_2, .int .i64 x200002_2, .int .i64 x200003_2, .slice Ao42 x200004_2.length co42]) ?_ 1 _ rfl; refine bkt ?_; refine blk_put (cs := #[.int .i64 x200000_2, .int .i64 x200001_2, .int .i64 x200002_2, .int .i64 x200003_2, .slice Ao42 x200004_2.length co42]) ?_ 0 _ rfl; refine bkt ?_; exact BK199.out⟩, ⟨hb3 HB GE186 GE187 GE199⟩⟩
                · rw [if_neg c37] at H
                  exact absurd H (by simp)
              · rw [if_neg c36] at H
                exact absurd H (by simp)
            · rw [if_neg c35] at H
              have c35b0 : decide (x42_2 < (l3.length : Int)) = false := decide_eq_false c35
              clear c35
              replace H := Option.bind_eq_some_iff.mp H
              obtain ⟨⟨t215, t216, t217⟩, A460, H⟩ := H
              replace H : (some (t215, t216, t217, 0)) = some (r1, r2, r3, r4) := H
              have A46 := Aside0.mk A460
              clear A460
              simp only [Option.some.injEq, Prod.mk.injEq] at H
              obtain ⟨rfl, rfl, rfl, rfl⟩ := H
              have hnb47 := NB199_186.out
              have hnc47 := NB186_199.out
              have hnb48 := NB199_187.out
              have hnc48 := NB187_199.out
              have hcz49_0 : wr.cell? ⟨gb199, 0, none⟩ = some (.int .i64 x200000_2) := (blk_cell BK199.out 0).trans rfl
              have hcz49_1 : wr.cell? ⟨gb199, 1, none⟩ = some (.int .i64 x200001_2) := (blk_cell BK199.out 1).trans rfl
              have hcz49_2 : wr.cell? ⟨gb199, 2, none⟩ = some (.int .i64 x200002_2) := (blk_cell BK199.out 2).trans rfl
              have hcz49_3 : wr.cell? ⟨gb199, 3, none⟩ = some (.int .i64 x200003_2) := (blk_cell BK199.out 3).trans rfl
              have hcz49_4 : wr.cell? ⟨gb199, 4, none⟩ = some (u200004) := (blk_cell BK199.out 4).trans rfl
              have hfz49_0 := blk_frozen BK199.out 0
              have hfz49_1 := blk_frozen BK199.out 1
              have hfz49_2 := blk_frozen BK199.out 2
              have hfz49_3 := blk_frozen BK199.out 3
              have hfz49_4 := blk_frozen BK199.out 4
              obtain ⟨Ao50, co50, eo50⟩ := Kd.R_slice HO_200004.out
              subst eo50
              go_wp2_with (first | (go_at_call 39; (with_reducible refine (morphology_plane_bitmap.calls k2 x200000_2 x200001_2 x200002_2 x200003_2 _ _ x200004_2 t215 t216 t217 _ ?side1 ?side2 A46.out).mono ?_); (case side1 => repeat (first | exact (Kd.R_reads' HO_200004.out).2.2 | (with_reducible refine Kd.C_alloc ?_ _) | (with_reducible refine Kd.C_drewN ?_ _) | (with_reducible refine Kd.C_drew ?_))); (case side2 => exact (Kd.R_reads' HO_200004.out).2.1); rintro e w51 ⟨v218, rfl, ho0, hb⟩; have n0_ := Aside0.mk (Kd.R_elder' (rkx HO_200004) (Kd.R_base ho0) hb); have n1_ := Aside0.mk (Kd.R_lower (Kd.R_new' ho0 (Kd.R_lt (rkx HO_200004))) (below_size (hb3 HB GE186 GE187 GE199))); have n2_ := Aside0.mk (blk_below (bkx BK186) hb); have n3_ := Aside0.mk (blk_below (bkx BK187) hb); have n4_ := Aside0.mk (blk_below (bkx BK199) hb); have n5_ := Aside0.mk (below_step (hb3 HB GE186 GE187 GE199) hb); clear HO_200004; clear BK186; clear BK187; clear BK199; clear HB; have HO_200004 := n0_; have HO219 := n1_; have BK186 := n2_; have BK187 := n3_; have BK199 := n4_; have HB := n5_; clear n0_ n1_ n2_ n3_ n4_ n5_; (try clear hb); (try clear hb2); (try clear hk); (try clear hi); (try clear ho0); have hnb52 := NB187_186.out; have hnc52 := NB186_187.out; have hcz53_0 : w51.cell? ⟨gb187, 0, none⟩ = some (.int .i64 0) := (blk_cell BK187.out 0).trans rfl; have hcz53_1 : w51.cell? ⟨gb187, 1, none⟩ = some (.int .i64 0) := (blk_cell BK187.out 1).trans rfl; have hcz53_2 : w51.cell? ⟨gb187, 2, none⟩ = some (.slice none 0 0) := (blk_cell BK187.out 2).trans rfl; have hfz53_0 := blk_frozen BK187.out 0; have hfz53_1 := blk_frozen BK187.out 1; have hfz53_2 := blk_frozen BK187.out 2; obtain ⟨Ao54, co54, eo54⟩ := Kd.R_slice HO219.out; subst eo54))
              repeat (go_quiet (first | (go_at_call 39; (with_reducible refine (morphology_plane_bitmap.calls k2 x200000_2 x200001_2 x200002_2 x200003_2 _ _ x200004_2 t215 t216 t217 _ ?side1 ?side2 A46.out).mono ?_); (case side1 => repeat (first | exact (Kd.R_reads' HO_200004.out).2.2 | (with_reducible refine Kd.C_alloc ?_ _) | (with_reducible refine Kd.C_drewN ?_ _) | (with_reducible refine Kd.C_drew ?_))); (case side2 => exact (Kd.R_reads' HO_200004.out).2.1); rintro e w51 ⟨v218, rfl, ho0, hb⟩; have n0_ := Aside0.mk (Kd.R_elder' (rkx HO_200004) (Kd.R_base ho0) hb); have n1_ := Aside0.mk (Kd.R_lower (Kd.R_new' ho0 (Kd.R_lt (rkx HO_200004))) (below_size (hb3 HB GE186 GE187 GE199))); have n2_ := Aside0.mk (blk_below (bkx BK186) hb); have n3_ := Aside0.mk (blk_below (bkx BK187) hb); have n4_ := Aside0.mk (blk_below (bkx BK199) hb); have n5_ := Aside0.mk (below_step (hb3 HB GE186 GE187 GE199) hb); clear HO_200004; clear BK186; clear BK187; clear BK199; clear HB; have HO_200004 := n0_; have HO219 := n1_; have BK186 := n2_; have BK187 := n3_; have BK199 := n4_; have HB := n5_; clear n0_ n1_ n2_ n3_ n4_ n5_; (try clear hb); (try clear hb2); (try clear hk); (try clear hi); (try clear ho0); have hnb52 := NB187_186.out; have hnc52 := NB186_187.out; have hcz53_0 : w51.cell? ⟨gb187, 0, none⟩ = some (.int .i64 0) := (blk_cell BK187.out 0).trans rfl; have hcz53_1 : w51.cell? ⟨gb187, 1, none⟩ = some (.int .i64 0) := (blk_cell BK187.out 1).trans rfl; have hcz53_2 : w51.cell? ⟨gb187, 2, none⟩ = some (.slice none 0 0) := (blk_cell BK187.out 2).trans rfl; have hfz53_0 := blk_frozen BK187.out 0; have hfz53_1 := blk_frozen BK187.out 1; have hfz53_2 := blk_frozen BK187.out 2; obtain ⟨Ao54, co54, eo54⟩ := Kd.R_slice HO219.out; subst eo54)); try go_wp2_with (first | (go_at_call 39; (with_reducible refine (morphology_plane_bitmap.calls k2 x200000_2 x200001_2 x200002_2 x200003_2 _ _ x200004_2 t215 t216 t217 _ ?side1 ?side2 A46.out).mono ?_); (case side1 => repeat (first | exact (Kd.R_reads' HO_200004.out).2.2 | (with_reducible refine Kd.C_alloc ?_ _) | (with_reducible refine Kd.C_drewN ?_ _) | (with_reducible refine Kd.C_drew ?_))); (case side2 => exact (Kd.R_reads' HO_200004.out).2.1); rintro e w51 ⟨v218, rfl, ho0, hb⟩; have n0_ := Aside0.mk (Kd.R_elder' (rkx HO_200004) (Kd.R_base ho0) hb); have n1_ := Aside0.mk (Kd.R_lower (Kd.R_new' ho0 (Kd.R_lt (rkx HO_200004))) (below_size (hb3 HB GE186 GE187 GE199))); have n2_ := Aside0.mk (blk_below (bkx BK186) hb); have n3_ := Aside0.mk (blk_below (bkx BK187) hb); have n4_ := Aside0.mk (blk_below (bkx BK199) hb); have n5_ := Aside0.mk (below_step (hb3 HB GE186 GE187 GE199) hb); clear HO_200004; clear BK186; clear BK187; clear BK199; clear HB; have HO_200004 := n0_; have HO219 := n1_; have BK186 := n2_; have BK187 := n3_; have BK199 := n4_; have HB := n5_; clear n0_ n1_ n2_ n3_ n4_ n5_; (try clear hb); (try clear hb2); (try clear hk); (try clear hi); (try clear ho0); have hnb52 := NB187_186.out; have hnc52 := NB186_187.out; have hcz53_0 : w51.cell? ⟨gb187, 0, none⟩ = some (.int .i64 0) := (blk_cell BK187.out 0).trans rfl; have hcz53_1 : w51.cell? ⟨gb187, 1, none⟩ = some (.int .i64 0) := (blk_cell BK187.out 1).trans rfl; have hcz53_2 : w51.cell? ⟨gb187, 2, none⟩ = some (.slice none 0 0) := (blk_cell BK187.out 2).trans rfl; have hfz53_0 := blk_frozen BK187.out 0; have hfz53_1 := blk_frozen BK187.out 1; have hfz53_2 := blk_frozen BK187.out 2; obtain ⟨Ao54, co54, eo54⟩ := Kd.R_slice HO219.out; subst eo54)))
              refine bodyPost_ret (results_ct rfl _ _ gb187 24 #[.int .i64 t215, .int .i64 t216, .slice Ao54 t217.length co54] (0, 0) _ rfl (by refine bkt ?_; refine blk_put (cs := #[.int .i64 t215, .int .i64 t216, .slice none 0 0]) ?_ 2 _ rfl; refine bkt ?_; refine blk_put (cs := #[.int .i64 t215, .int .i64 0, .slice none 0 0]) ?_ 1 _ rfl; refine bkt ?_; refine blk_put (cs := #[.int .i64 0, .int .i64 0, .slice none 0 0]) ?_ 0 _ rfl; refine bkt ?_; exact BK187.out) Try.underlying24 rfl (by kernel_rfl)) rfl ?_
              exact ⟨_, by first | rfl | (simp [errW_none, errW_some] <;> rfl) | (simp only [← hji7, ← hji8]; first | rfl | (simp [errW_none, errW_some] <;> rfl)) | (simp [*, errW_none, errW_some] <;> rfl), by refine rkt ?_; exact Kd.R_mono (Kd.R_far (p := ⟨gb187, 2, none⟩) (Kd.R_far (p := ⟨gb187, 1, none⟩) (Kd.R_far (p := ⟨gb187, 0, none⟩) (Kd.R_types HO219.out BK187.out (by decide)) (fun _ hk => hk.2) (.int .i64 t215)) (fun _ hk => hk.2) (.int .i64 t216)) (fun _ hk => hk.2) (.slice Ao54 t217.length co54)) (fun _ hk => trivial), by repeat (first | (with_reducible first | exact HB.out | apply below_alloc | apply pw_below_drewN | apply below_drew1 | refine below_set ?_ GE186.out | refine below_set ?_ GE187.out | refine below_set ?_ GE199.out) | exact HB.out)⟩
  · rw [if_neg c6] at H
    have c6b0 : (t191 == 0) = false := beq_eq_false_iff_ne.mpr c6
    have c6b1 : (t191 != 0) = true := bne_iff_ne.mpr c6
    simp only [Option.some.injEq, Prod.mk.injEq] at H
    obtain ⟨rfl, rfl, rfl, rfl⟩ := H
    go_enter Try.func30, Try.ntmps30
    go_wp2_with (first | ((with_reducible refine gate_dst (N := 4) rfl ?_); refine box_event ?hg (N := 4) ?hd (cs := #[.int .i64 a0_0, .int .i64 a0_1, .slice A0_2 l0_2.length c0_2]) (t := 24) ?hr ?_; (case hd => rfl); (case hg => rfl); (case hr => first | (go_simp; done) | (go_simp; rfl)); intro gb186 hg w55 hbox hb; have n0_ := Aside0.mk (below_step (hb0 HB) hb); have n1_ := Aside0.mk (hbox); have n2_ := Aside0.mk ((by rw [hg]; exact (below_size (hb0 HB)) : w.heap.size ≤ gb186)); have n3_ := Aside0.mk ((by rw [hg]; exact (below_size (hb0 HB)) : w.heap.size ≤ gb186)); clear HB; have HB := n0_; have BK186 := n1_; have GW186 := n2_; have GE186 := n3_; clear n0_ n1_ n2_ n3_; clear hb hbox hg) | ((with_reducible refine gate_dst (N := 8) rfl ?_); refine box_event ?hg (N := 8) ?hd (cs := #[.int .i64 0, .int .i64 0, .slice none 0 0]) (t := 24) ?hr ?_; (case hd => rfl); (case hg => rfl); (case hr => first | (go_simp; done) | (go_simp; rfl)); intro gb187 hg w56 hbox hb; have n0_ := Aside0.mk (blk_below (bkx BK186) hb); have n1_ := Aside0.mk (below_step (hb1 HB GE186) hb); have n2_ := Aside0.mk (hbox); have n3_ := Aside0.mk ((by rw [hg]; exact (below_size (hb1 HB GE186)) : w.heap.size ≤ gb187)); have n4_ := Aside0.mk ((by rw [hg]; exact (below_size (hb1 HB GE186)) : w.heap.size ≤ gb187)); have n5_ := Aside0.mk (nel hg BK186 : gb186 ≠ gb187); have n6_ := Aside0.mk (neg hg BK186 : gb187 ≠ gb186); clear BK186; clear HB; have BK186 := n0_; have HB := n1_; have BK187 := n2_; have GW187 := n3_; have GE187 := n4_; have NB186_187 := n5_; have NB187_186 := n6_; clear n0_ n1_ n2_ n3_ n4_ n5_ n6_; clear hb hbox hg; have hnb57 := NB186_187.out; have hnc57 := NB187_186.out; have hcz58_0 : w56.cell? ⟨gb186, 0, none⟩ = some (.int .i64 a0_0) := (blk_cell BK186.out 0).trans rfl; have hcz58_1 : w56.cell? ⟨gb186, 1, none⟩ = some (.int .i64 a0_1) := (blk_cell BK186.out 1).trans rfl; have hcz58_2 : w56.cell? ⟨gb186, 2, none⟩ = some (.slice A0_2 l0_2.length c0_2) := (blk_cell BK186.out 2).trans rfl; have hfz58_0 := blk_frozen BK186.out 0; have hfz58_1 := blk_frozen BK186.out 1; have hfz58_2 := blk_frozen BK186.out 2) | ((with_reducible refine gate_dst (N := 17) rfl ?_); refine Kd.R_lit (Kd.int .i64) _ 3 ?hg (N := 17) ?hd (xs := ([a1, a2] : List Int)) (inner := [.int .i64 a1, .int .i64 a2]) (ok := fun _ => True) (okp := fun _ => True) ?hr ?hp (fun _ hk => hk) trivial (Below.refl _ _) (Nat.le_refl _) (by simp) ?_; (case hd => rfl); (case hg => rfl); (case hr => first | (go_simp; done) | (go_simp; rfl)); (case hp => exact (Reps.one (show Kd.M (Kd.int .i64) _ _ _ a1 [.int .i64 a1] from rfl) (Reps.one (show Kd.M (Kd.int .i64) _ _ _ a2 [.int .i64 a2] from rfl) (Reps.none _ _)))); intro v189 w59 ho60 hb hg_ hnew_; clear hg_ hnew_; (first | rw [← Ny188.out] at ho60 | (simp only [Int.reduceToNat] at ho60; rw [← Ny188.out] at ho60)); have n0_ := Aside0.mk (Kd.R_lower ho60 (below_size (hb2 HB GE186 GE187))); have n1_ := Aside0.mk (blk_below (bkx BK186) hb); have n2_ := Aside0.mk (blk_below (bkx BK187) hb); have n3_ := Aside0.mk (below_step (hb2 HB GE186 GE187) hb); clear BK186; clear BK187; clear HB; have HO190 := n0_; have BK186 := n1_; have BK187 := n2_; have HB := n3_; clear n0_ n1_ n2_ n3_; clear hb ho60; obtain ⟨Ao61, co61, eo61⟩ := Kd.R_slice HO190.out; subst eo61) | (go_at_call 35; (with_reducible refine (morphology_check.calls k a0_0 a0_1 _ _ l0_2 _ _ y188 t191 _ ?side1 ?side2 ?side3 ?side4 A5.out).mono ?_); (case side1 => repeat (first | exact (Kd.C_below HR0_2.out HB.out) | (with_reducible refine Kd.C_alloc ?_ _) | (with_reducible refine Kd.C_drewN ?_ _) | (with_reducible refine Kd.C_drew ?_))); (case side2 => exact HC0_2.out); (case side3 => repeat (first | exact (Kd.R_reads' HO190.out).2.2 | (with_reducible refine Kd.C_alloc ?_ _) | (with_reducible refine Kd.C_drewN ?_ _) | (with_reducible refine Kd.C_drew ?_))); (case side4 => exact (Kd.R_reads' HO190.out).2.1); rintro e w62 ⟨rfl, hb⟩; have n0_ := Aside0.mk (Kd.R_below (rkx HO190) hb); have n1_ := Aside0.mk (blk_below (bkx BK186) hb); have n2_ := Aside0.mk (blk_below (bkx BK187) hb); have n3_ := Aside0.mk (below_step (hb2 HB GE186 GE187) hb); clear HO190; clear BK186; clear BK187; clear HB; have HO190 := n0_; have BK186 := n1_; have BK187 := n2_; have HB := n3_; clear n0_ n1_ n2_ n3_; (try clear hb); (try clear hb2); (try clear hk); (try clear hi); have hcz63_0 : w62.cell? ⟨gb187, 0, none⟩ = some (.int .i64 0) := (blk_cell BK187.out 0).trans rfl; have hcz63_1 : w62.cell? ⟨gb187, 1, none⟩ = some (.int .i64 0) := (blk_cell BK187.out 1).trans rfl; have hcz63_2 : w62.cell? ⟨gb187, 2, none⟩ = some (.slice none 0 0) := (blk_cell BK187.out 2).trans rfl; have hfz63_0 := blk_frozen BK187.out 0; have hfz63_1 := blk_frozen BK187.out 1; have hfz63_2 := blk_frozen BK187.out 2))
    repeat (go_quiet (first | ((with_reducible refine gate_dst (N := 4) rfl ?_); refine box_event ?hg (N := 4) ?hd (cs := #[.int .i64 a0_0, .int .i64 a0_1, .slice A0_2 l0_2.length c0_2]) (t := 24) ?hr ?_; (case hd => rfl); (case hg => rfl); (case hr => first | (go_simp; done) | (go_simp; rfl)); intro gb186 hg w55 hbox hb; have n0_ := Aside0.mk (below_step (hb0 HB) hb); have n1_ := Aside0.mk (hbox); have n2_ := Aside0.mk ((by rw [hg]; exact (below_size (hb0 HB)) : w.heap.size ≤ gb186)); have n3_ := Aside0.mk ((by rw [hg]; exact (below_size (hb0 HB)) : w.heap.size ≤ gb186)); clear HB; have HB := n0_; have BK186 := n1_; have GW186 := n2_; have GE186 := n3_; clear n0_ n1_ n2_ n3_; clear hb hbox hg) | ((with_reducible refine gate_dst (N := 8) rfl ?_); refine box_event ?hg (N := 8) ?hd (cs := #[.int .i64 0, .int .i64 0, .slice none 0 0]) (t := 24) ?hr ?_; (case hd => rfl); (case hg => rfl); (case hr => first | (go_simp; done) | (go_simp; rfl)); intro gb187 hg w56 hbox hb; have n0_ := Aside0.mk (blk_below (bkx BK186) hb); have n1_ := Aside0.mk (below_step (hb1 HB GE186) hb); have n2_ := Aside0.mk (hbox); have n3_ := Aside0.mk ((by rw [hg]; exact (below_size (hb1 HB GE186)) : w.heap.size ≤ gb187)); have n4_ := Aside0.mk ((by rw [hg]; exact (below_size (hb1 HB GE186)) : w.heap.size ≤ gb187)); have n5_ := Aside0.mk (nel hg BK186 : gb186 ≠ gb187); have n6_ := Aside0.mk (neg hg BK186 : gb187 ≠ gb186); clear BK186; clear HB; have BK186 := n0_; have HB := n1_; have BK187 := n2_; have GW187 := n3_; have GE187 := n4_; have NB186_187 := n5_; have NB187_186 := n6_; clear n0_ n1_ n2_ n3_ n4_ n5_ n6_; clear hb hbox hg; have hnb57 := NB186_187.out; have hnc57 := NB187_186.out; have hcz58_0 : w56.cell? ⟨gb186, 0, none⟩ = some (.int .i64 a0_0) := (blk_cell BK186.out 0).trans rfl; have hcz58_1 : w56.cell? ⟨gb186, 1, none⟩ = some (.int .i64 a0_1) := (blk_cell BK186.out 1).trans rfl; have hcz58_2 : w56.cell? ⟨gb186, 2, none⟩ = some (.slice A0_2 l0_2.length c0_2) := (blk_cell BK186.out 2).trans rfl; have hfz58_0 := blk_frozen BK186.out 0; have hfz58_1 := blk_frozen BK186.out 1; have hfz58_2 := blk_frozen BK186.out 2) | ((with_reducible refine gate_dst (N := 17) rfl ?_); refine Kd.R_lit (Kd.int .i64) _ 3 ?hg (N := 17) ?hd (xs := ([a1, a2] : List Int)) (inner := [.int .i64 a1, .int .i64 a2]) (ok := fun _ => True) (okp := fun _ => True) ?hr ?hp (fun _ hk => hk) trivial (Below.refl _ _) (Nat.le_refl _) (by simp) ?_; (case hd => rfl); (case hg => rfl); (case hr => first | (go_simp; done) | (go_simp; rfl)); (case hp => exact (Reps.one (show Kd.M (Kd.int .i64) _ _ _ a1 [.int .i64 a1] from rfl) (Reps.one (show Kd.M (Kd.int .i64) _ _ _ a2 [.int .i64 a2] from rfl) (Reps.none _ _)))); intro v189 w59 ho60 hb hg_ hnew_; clear hg_ hnew_; (first | rw [← Ny188.out] at ho60 | (simp only [Int.reduceToNat] at ho60; rw [← Ny188.out] at ho60)); have n0_ := Aside0.mk (Kd.R_lower ho60 (below_size (hb2 HB GE186 GE187))); have n1_ := Aside0.mk (blk_below (bkx BK186) hb); have n2_ := Aside0.mk (blk_below (bkx BK187) hb); have n3_ := Aside0.mk (below_step (hb2 HB GE186 GE187) hb); clear BK186; clear BK187; clear HB; have HO190 := n0_; have BK186 := n1_; have BK187 := n2_; have HB := n3_; clear n0_ n1_ n2_ n3_; clear hb ho60; obtain ⟨Ao61, co61, eo61⟩ := Kd.R_slice HO190.out; subst eo61) | (go_at_call 35; (with_reducible refine (morphology_check.calls k a0_0 a0_1 _ _ l0_2 _ _ y188 t191 _ ?side1 ?side2 ?side3 ?side4 A5.out).mono ?_); (case side1 => repeat (first | exact (Kd.C_below HR0_2.out HB.out) | (with_reducible refine Kd.C_alloc ?_ _) | (with_reducible refine Kd.C_drewN ?_ _) | (with_reducible refine Kd.C_drew ?_))); (case side2 => exact HC0_2.out); (case side3 => repeat (first | exact (Kd.R_reads' HO190.out).2.2 | (with_reducible refine Kd.C_alloc ?_ _) | (with_reducible refine Kd.C_drewN ?_ _) | (with_reducible refine Kd.C_drew ?_))); (case side4 => exact (Kd.R_reads' HO190.out).2.1); rintro e w62 ⟨rfl, hb⟩; have n0_ := Aside0.mk (Kd.R_below (rkx HO190) hb); have n1_ := Aside0.mk (blk_below (bkx BK186) hb); have n2_ := Aside0.mk (blk_below (bkx BK187) hb); have n3_ := Aside0.mk (below_step (hb2 HB GE186 GE187) hb); clear HO190; clear BK186; clear BK187; clear HB; have HO190 := n0_; have BK186 := n1_; have BK187 := n2_; have HB := n3_; clear n0_ n1_ n2_ n3_; (try clear hb); (try clear hb2); (try clear hk); (try clear hi); have hcz63_0 : w62.cell? ⟨gb187, 0, none⟩ = some (.int .i64 0) := (blk_cell BK187.out 0).trans rfl; have hcz63_1 : w62.cell? ⟨gb187, 1, none⟩ = some (.int .i64 0) := (blk_cell BK187.out 1).trans rfl; have hcz63_2 : w62.cell? ⟨gb187, 2, none⟩ = some (.slice none 0 0) := (blk_cell BK187.out 2).trans rfl; have hfz63_0 := blk_frozen BK187.out 0; have hfz63_1 := blk_frozen BK187.out 1; have hfz63_2 := blk_frozen BK187.out 2)); try go_wp2_with (first | ((with_reducible refine gate_dst (N := 4) rfl ?_); refine box_event ?hg (N := 4) ?hd (cs := #[.int .i64 a0_0, .int .i64 a0_1, .slice A0_2 l0_2.length c0_2]) (t := 24) ?hr ?_; (case hd => rfl); (case hg => rfl); (case hr => first | (go_simp; done) | (go_simp; rfl)); intro gb186 hg w55 hbox hb; have n0_ := Aside0.mk (below_step (hb0 HB) hb); have n1_ := Aside0.mk (hbox); have n2_ := Aside0.mk ((by rw [hg]; exact (below_size (hb0 HB)) : w.heap.size ≤ gb186)); have n3_ := Aside0.mk ((by rw [hg]; exact (below_size (hb0 HB)) : w.heap.size ≤ gb186)); clear HB; have HB := n0_; have BK186 := n1_; have GW186 := n2_; have GE186 := n3_; clear n0_ n1_ n2_ n3_; clear hb hbox hg) | ((with_reducible refine gate_dst (N := 8) rfl ?_); refine box_event ?hg (N := 8) ?hd (cs := #[.int .i64 0, .int .i64 0, .slice none 0 0]) (t := 24) ?hr ?_; (case hd => rfl); (case hg => rfl); (case hr => first | (go_simp; done) | (go_simp; rfl)); intro gb187 hg w56 hbox hb; have n0_ := Aside0.mk (blk_below (bkx BK186) hb); have n1_ := Aside0.mk (below_step (hb1 HB GE186) hb); have n2_ := Aside0.mk (hbox); have n3_ := Aside0.mk ((by rw [hg]; exact (below_size (hb1 HB GE186)) : w.heap.size ≤ gb187)); have n4_ := Aside0.mk ((by rw [hg]; exact (below_size (hb1 HB GE186)) : w.heap.size ≤ gb187)); have n5_ := Aside0.mk (nel hg BK186 : gb186 ≠ gb187); have n6_ := Aside0.mk (neg hg BK186 : gb187 ≠ gb186); clear BK186; clear HB; have BK186 := n0_; have HB := n1_; have BK187 := n2_; have GW187 := n3_; have GE187 := n4_; have NB186_187 := n5_; have NB187_186 := n6_; clear n0_ n1_ n2_ n3_ n4_ n5_ n6_; clear hb hbox hg; have hnb57 := NB186_187.out; have hnc57 := NB187_186.out; have hcz58_0 : w56.cell? ⟨gb186, 0, none⟩ = some (.int .i64 a0_0) := (blk_cell BK186.out 0).trans rfl; have hcz58_1 : w56.cell? ⟨gb186, 1, none⟩ = some (.int .i64 a0_1) := (blk_cell BK186.out 1).trans rfl; have hcz58_2 : w56.cell? ⟨gb186, 2, none⟩ = some (.slice A0_2 l0_2.length c0_2) := (blk_cell BK186.out 2).trans rfl; have hfz58_0 := blk_frozen BK186.out 0; have hfz58_1 := blk_frozen BK186.out 1; have hfz58_2 := blk_frozen BK186.out 2) | ((with_reducible refine gate_dst (N := 17) rfl ?_); refine Kd.R_lit (Kd.int .i64) _ 3 ?hg (N := 17) ?hd (xs := ([a1, a2] : List Int)) (inner := [.int .i64 a1, .int .i64 a2]) (ok := fun _ => True) (okp := fun _ => True) ?hr ?hp (fun _ hk => hk) trivial (Below.refl _ _) (Nat.le_refl _) (by simp) ?_; (case hd => rfl); (case hg => rfl); (case hr => first | (go_simp; done) | (go_simp; rfl)); (case hp => exact (Reps.one (show Kd.M (Kd.int .i64) _ _ _ a1 [.int .i64 a1] from rfl) (Reps.one (show Kd.M (Kd.int .i64) _ _ _ a2 [.int .i64 a2] from rfl) (Reps.none _ _)))); intro v189 w59 ho60 hb hg_ hnew_; clear hg_ hnew_; (first | rw [← Ny188.out] at ho60 | (simp only [Int.reduceToNat] at ho60; rw [← Ny188.out] at ho60)); have n0_ := Aside0.mk (Kd.R_lower ho60 (below_size (hb2 HB GE186 GE187))); have n1_ := Aside0.mk (blk_below (bkx BK186) hb); have n2_ := Aside0.mk (blk_below (bkx BK187) hb); have n3_ := Aside0.mk (below_step (hb2 HB GE186 GE187) hb); clear BK186; clear BK187; clear HB; have HO190 := n0_; have BK186 := n1_; have BK187 := n2_; have HB := n3_; clear n0_ n1_ n2_ n3_; clear hb ho60; obtain ⟨Ao61, co61, eo61⟩ := Kd.R_slice HO190.out; subst eo61) | (go_at_call 35; (with_reducible refine (morphology_check.calls k a0_0 a0_1 _ _ l0_2 _ _ y188 t191 _ ?side1 ?side2 ?side3 ?side4 A5.out).mono ?_); (case side1 => repeat (first | exact (Kd.C_below HR0_2.out HB.out) | (with_reducible refine Kd.C_alloc ?_ _) | (with_reducible refine Kd.C_drewN ?_ _) | (with_reducible refine Kd.C_drew ?_))); (case side2 => exact HC0_2.out); (case side3 => repeat (first | exact (Kd.R_reads' HO190.out).2.2 | (with_reducible refine Kd.C_alloc ?_ _) | (with_reducible refine Kd.C_drewN ?_ _) | (with_reducible refine Kd.C_drew ?_))); (case side4 => exact (Kd.R_reads' HO190.out).2.1); rintro e w62 ⟨rfl, hb⟩; have n0_ := Aside0.mk (Kd.R_below (rkx HO190) hb); have n1_ := Aside0.mk (blk_below (bkx BK186) hb); have n2_ := Aside0.mk (blk_below (bkx BK187) hb); have n3_ := Aside0.mk (below_step (hb2 HB GE186 GE187) hb); clear HO190; clear BK186; clear BK187; clear HB; have HO190 := n0_; have BK186 := n1_; have BK187 := n2_; have HB := n3_; clear n0_ n1_ n2_ n3_; (try clear hb); (try clear hb2); (try clear hk); (try clear hi); have hcz63_0 : w62.cell? ⟨gb187, 0, none⟩ = some (.int .i64 0) := (blk_cell BK187.out 0).trans rfl; have hcz63_1 : w62.cell? ⟨gb187, 1, none⟩ = some (.int .i64 0) := (blk_cell BK187.out 1).trans rfl; have hcz63_2 : w62.cell? ⟨gb187, 2, none⟩ = some (.slice none 0 0) := (blk_cell BK187.out 2).trans rfl; have hfz63_0 := blk_frozen BK187.out 0; have hfz63_1 := blk_frozen BK187.out 1; have hfz63_2 := blk_frozen BK187.out 2)))
    refine bodyPost_ret (results_ct rfl _ _ gb187 24 #[.int .i64 0, .int .i64 0, .slice none 0 0] (0, 0) _ rfl (by refine bkt ?_; refine blk_put (cs := #[.int .i64 0, .int .i64 0, .slice none 0 0]) ?_ 2 _ rfl; refine bkt ?_; refine blk_put (cs := #[.int .i64 0, .int .i64 0, .slice none 0 0]) ?_ 1 _ rfl; refine bkt ?_; refine blk_put (cs := #[.int .i64 0, .int .i64 0, .slice none 0 0]) ?_ 0 _ rfl; refine bkt ?_; exact BK187.out) Try.underlying24 rfl (by kernel_rfl)) rfl ?_
    exact ⟨_, by first | rfl | (simp [errW_none, errW_some] <;> rfl) | (simp [*, errW_none, errW_some] <;> rfl), by first | exact Kd.R_nil _ _ _ _ _ | exact Kd.N_nil _ _ _ _ _ | exact Kd.V_nil _ _ _ _ _ | exact Kd.Q_nil _ _ _ _ _ | exact Kd.S_nil _ _ _ _ _, by repeat (first | (with_reducible first | exact HB.out | apply below_alloc | apply pw_below_drewN | apply below_drew1 | refine below_set ?_ GE186.out | refine below_set ?_ GE187.out) | exact HB.out)⟩

/-! ### morphology_erosion: function 31 -/
def morphology_erosion.f  : Option (Nat) := some 46
set_option maxHeartbeats 8000000 in
set_option maxRecDepth 100000 in
theorem morphology_erosion.calls  (r : Nat) (w : World) (h : morphology_erosion.f  = some r) :
    Calls Try.prog 31 #[] w fun e w' => e = .returned (XFn.enc r) ∧ Drawn0 w w' := by
  have H : (some 46) = some r := h
  clear h
  obtain rfl := Option.some.inj H
  go_enter Try.func31, Try.ntmps31
  go_wp2
  go_ret
  exact ⟨by first | rfl | (simp; done) | (simp [*]; done), by repeat (first | exact Drawn0.refl _ | apply Drawn0.step)⟩

/-! ### morphology_dilation: function 32 -/
def morphology_dilation.f  : Option (Nat) := some 47
set_option maxHeartbeats 8000000 in
set_option maxRecDepth 100000 in
theorem morphology_dilation.calls  (r : Nat) (w : World) (h : morphology_dilation.f  = some r) :
    Calls Try.prog 32 #[] w fun e w' => e = .returned (XFn.enc r) ∧ Drawn0 w w' := by
  have H : (some 47) = some r := h
  clear h
  obtain rfl := Option.some.inj H
  go_enter Try.func32, Try.ntmps32
  go_wp2
  go_ret
  exact ⟨by first | rfl | (simp; done) | (simp [*]; done), by repeat (first | exact Drawn0.refl _ | apply Drawn0.step)⟩

/-! ### morphology_Open: function 13 -/
def morphology_Open.f (k : Nat) (a0_0 : Int) (a0_1 : Int) (l0_2 : List Bool) (a1 : Int) (a2 : Int) : Option (Int × Int × List Bool × Int) := (morphology_erosion.f).bind fun t222 => ((morphology_dilation.f).bind fun t223 => ((morphology_perform.f k a0_0 a0_1 l0_2 a1 a2 (([t222, t223] : List Nat))).bind fun bt227 => (some (bt227.1, bt227.2.1, bt227.2.2.1, bt227.2.2.2))))
theorem morphology_Open.mono : ∀ a0 a1 a2 a3 a4 k, LeO (morphology_Open.f k a0 a1 a2 a3 a4) (morphology_Open.f (k + 1) a0 a1 a2 a3 a4) := by
  intro a0 a1 a2 a3 a4 k
  unfold morphology_Open.f
  repeat' first
      | (with_reducible exact morphology_perform.mono _ _ _ _ _ _ _)
      | (with_reducible exact LeO.refl _)
      | (with_reducible exact LeO.none _)
      | (with_reducible refine LeO.ite ?_ ?_)
      | (with_reducible refine LeO.bind ?_ (fun _ => ?_))
      | exact morphology_perform.mono _ _ _ _ _ _ _
      | exact LeO.none _
      | refine LeO.ite ?_ ?_
      | refine LeO.bind ?_ (fun _ => ?_)
def morphology_Open.T1 : Bool × List (List Nat × List Nat) := (true, [([], []), ([], []), ([], []), ([], []), ([3], []), ([3, 4], [3, 4]), ([0, 1, 2, 5, 4], [0, 1, 2, 5]), ([6], [6]), ([6], [6]), ([7, 6, 0, 1, 2, 3, 4, 5, 6, 7, 8], [7]), ([8, 9, 0, 1, 2, 3, 4, 5, 6, 7, 8, 9], [8])])
def morphology_Open.B1 : List Nat := [0, 0, 0, 0, 8, 24, 63, 127, 127, 511, 1023]
theorem morphology_Open.tab1 : rtab .any (opsOf Try.f13 1) = morphology_Open.T1 := by kernel_rfl
theorem morphology_Open.bits1 : waitsOk morphology_Open.T1.2 morphology_Open.B1 = true := by kernel_rfl
set_option maxHeartbeats 8000000 in
set_option maxRecDepth 100000 in
theorem morphology_Open.calls (k : Nat) (a0_0 : Int) (a0_1 : Int) (A0_2 : Option Addr) (c0_2 : Nat) (l0_2 : List Bool) (a1 : Int) (a2 : Int) (r1 : Int) (r2 : Int) (r3 : List Bool) (r4 : Int) (w : World) (hr0_2 : Kd.C Kd.bool w A0_2 l0_2.length l0_2) (hc0_2 : l0_2.length ≤ c0_2) (h : morphology_Open.f k a0_0 a0_1 l0_2 a1 a2 = some (r1, r2, r3, r4)) :
    Calls Try.prog 13 #[.agg #[.int .i64 a0_0, .int .i64 a0_1, .slice A0_2 l0_2.length c0_2], .int .i64 a1, .int .i64 a2] w fun e w' => ∃ v2_ : Value, e = .returned (.tuple #[.agg #[.int .i64 r1, .int .i64 r2, v2_], .int .i64 r4]) ∧ Kd.R Kd.bool 4 w' w.heap.size (fun _ => True) v2_ r3 ∧ Below w.heap.size w w' := by
  have hu24 := Try.underlying24
  have HR0_2 := Aside0.mk hr0_2
  have HC0_2 := Aside0.mk hc0_2
  clear hr0_2 hc0_2
  have HB := Aside0.mk (Below.refl w.heap.size w)
  have H : ((morphology_erosion.f).bind fun t222 => ((morphology_dilation.f).bind fun t223 => ((morphology_perform.f k a0_0 a0_1 l0_2 a1 a2 (([t222, t223] : List Nat))).bind fun bt227 => (some (bt227.1, bt227.2.1, bt227.2.2.1, bt227.2.2.2))))) = some (r1, r2, r3, r4) := h
  clear h
  replace H := Option.bind_eq_some_iff.mp H
  obtain ⟨t222, A40, H⟩ := H
  replace H : ((morphology_dilation.f).bind fun t223 => ((morphology_perform.f k a0_0 a0_1 l0_2 a1 a2 (([t222, t223] : List Nat))).bind fun bt227 => (some (bt227.1, bt227.2.1, bt227.2.2.1, bt227.2.2.2)))) = some (r1, r2, r3, r4) := H
  have A4 := Aside0.mk A40
  clear A40
  replace H := Option.bind_eq_some_iff.mp H
  obtain ⟨t223, A50, H⟩ := H
  replace H : ((morphology_perform.f k a0_0 a0_1 l0_2 a1 a2 (([t222, t223] : List Nat))).bind fun bt227 => (some (bt227.1, bt227.2.1, bt227.2.2.1, bt227.2.2.2))) = some (r1, r2, r3, r4) := H
  have A5 := Aside0.mk A50
  clear A50
  obtain ⟨y224, hy224⟩ : ∃ y_ : List Nat, y_ = (([t222, t223] : List Nat)) := ⟨_, rfl⟩
  replace H : ((morphology_perform.f k a0_0 a0_1 l0_2 a1 a2 y224).bind fun bt227 => (some (bt227.1, bt227.2.1, bt227.2.2.1, bt227.2.2.2))) = some (r1, r2, r3, r4) := by first | (rw [hy224]; with_reducible exact H) | (have H2_ := (Option.bind_some _ _).symm.trans H; rw [hy224]; with_reducible exact H2_) | (have H2_ := (Option.bind_some _ _).symm.trans H; with_reducible exact H2_) | with_reducible exact H | (rw [hy224]; exact H) | exact H
  have Ny224 := Aside0.mk hy224
  clear hy224
  replace H := Option.bind_eq_some_iff.mp H
  obtain ⟨⟨t227, t228, t229, t232⟩, A60, H⟩ := H
  replace H : (some (t227, t228, t229, t232)) = some (r1, r2, r3, r4) := H
  have A6 := Aside0.mk A60
  clear A60
  simp only [Option.some.injEq, Prod.mk.injEq] at H
  obtain ⟨rfl, rfl, rfl, rfl⟩ := H
  go_enter Try.func13, Try.ntmps13
  try go_wp2_with (first | ((with_reducible refine gate_dst (N := 3) rfl ?_); refine box_event ?hg (N := 3) ?hd (cs := #[.int .i64 a0_0, .int .i64 a0_1, .slice A0_2 l0_2.length c0_2]) (t := 24) ?hr ?_; (case hd => rfl); (case hg => rfl); (case hr => first | (go_simp; done) | (go_simp; rfl)); intro gb220 hg w7 hbox hb; have n0_ := Aside0.mk (below_step (hb0 HB) hb); have n1_ := Aside0.mk (hbox); have n2_ := Aside0.mk ((by rw [hg]; exact (below_size (hb0 HB)) : w.heap.size ≤ gb220)); have n3_ := Aside0.mk ((by rw [hg]; exact (below_size (hb0 HB)) : w.heap.size ≤ gb220)); clear HB; have HB := n0_; have BK220 := n1_; have GW220 := n2_; have GE220 := n3_; clear n0_ n1_ n2_ n3_; clear hb hbox hg) | ((with_reducible refine gate_dst (N := 6) rfl ?_); refine box_event ?hg (N := 6) ?hd (cs := #[.int .i64 0, .int .i64 0, .slice none 0 0]) (t := 24) ?hr ?_; (case hd => rfl); (case hg => rfl); (case hr => first | (go_simp; done) | (go_simp; rfl)); intro gb221 hg w8 hbox hb; have n0_ := Aside0.mk (blk_below (bkx BK220) hb); have n1_ := Aside0.mk (below_step (hb1 HB GE220) hb); have n2_ := Aside0.mk (hbox); have n3_ := Aside0.mk ((by rw [hg]; exact (below_size (hb1 HB GE220)) : w.heap.size ≤ gb221)); have n4_ := Aside0.mk ((by rw [hg]; exact (below_size (hb1 HB GE220)) : w.heap.size ≤ gb221)); have n5_ := Aside0.mk (nel hg BK220 : gb220 ≠ gb221); have n6_ := Aside0.mk (neg hg BK220 : gb221 ≠ gb220); clear BK220; clear HB; have BK220 := n0_; have HB := n1_; have BK221 := n2_; have GW221 := n3_; have GE221 := n4_; have NB220_221 := n5_; have NB221_220 := n6_; clear n0_ n1_ n2_ n3_ n4_ n5_ n6_; clear hb hbox hg))
  have n0_ := Aside0.mk (blk_drew BK220.out)
  have n1_ := Aside0.mk (blk_drew BK221.out)
  have n2_ := Aside0.mk (below_drew1 HB.out)
  clear BK220
  clear BK221
  clear HB
  have BK220 := n0_
  have BK221 := n1_
  have HB := n2_
  clear n0_ n1_ n2_
  refine start_ (n := 11) (S := fun w' => w'.cell? ⟨gb220, 0, none⟩ = some (.int .i64 a0_0) ∧ w'.cell? ⟨gb220, 1, none⟩ = some (.int .i64 a0_1) ∧ w'.cell? ⟨gb220, 2, none⟩ = some (.slice A0_2 l0_2.length c0_2)) (ds := []) (bA 11 0) (by kernel_rfl) rfl rfl ⟨(blk_cell BK220.out 0).trans rfl, (blk_cell BK220.out 1).trans rfl, (blk_cell BK220.out 2).trans rfl⟩ (fun hHeld => ?_); refine with_tabW morphology_Open.tab1 morphology_Open.bits1 (fun HT_ HW_ => ?_)
  generalize w8.drew = w9 at BK220 BK221 HB hHeld ⊢
  refine pt HT_ 1 9 ?_
  refine pt HT_ 2 10 ?_
  refine tk HT_ HW_ hHeld 0 8 ?_
  refine one_ (i := 3) (N := some 11) (bA 11 15) rfl rfl (one_of HT_.out (by kernel_rfl)) (by decide) (fun K hK => ?_)
  refine goes_ Try.func31 (by kernel_rfl) rfl #[] (by rfl) rfl rfl mapx ?_
  with_reducible refine (morphology_erosion.calls  t222 _ A4.out).mono ?_
  rintro e w' ⟨rfl, ⟨nd, rfl⟩⟩
  refine ⟨_, rfl, ?_⟩
  refine hK.out _ _ ⟨(blk_cell BK220.out 0).trans rfl, (blk_cell BK220.out 1).trans rfl, (blk_cell BK220.out 2).trans rfl⟩ (fun hHeld => ?_)
  clear hK K
  refine norm_ (a' := ?_) ?_ ?_
  rotate_left
  · show Act.put _ (some 11) _ = _
    simp only [Act.put, List.setIfInBounds_toArray, List.set_cons_zero, List.set_cons_succ, i64_w, i32_w]
    rfl
  refine one_ (i := 4) (N := some 12) (bA 11 31) rfl rfl (one_of HT_.out (by kernel_rfl)) (by decide) (fun K hK => ?_)
  refine goes_ Try.func32 (by kernel_rfl) rfl #[] (by rfl) rfl rfl mapx ?_
  with_reducible refine (morphology_dilation.calls  t223 _ A5.out).mono ?_
  rintro e w' ⟨rfl, ⟨nd, rfl⟩⟩
  refine ⟨_, rfl, ?_⟩
  refine hK.out _ _ ⟨(blk_cell BK220.out 0).trans rfl, (blk_cell BK220.out 1).trans rfl, (blk_cell BK220.out 2).trans rfl⟩ (fun hHeld => ?_)
  clear hK K
  refine norm_ (a' := ?_) ?_ ?_
  rotate_left
  · show Act.put _ (some 12) _ = _
    simp only [Act.put, List.setIfInBounds_toArray, List.set_cons_zero, List.set_cons_succ, i64_w, i32_w]
    rfl
  refine one_ (i := 5) (N := some 13) (bA 11 63) rfl rfl (one_of HT_.out (by kernel_rfl)) (by decide) (fun K hK => ?_)
  refine Kd.R_lit_step Kd.fn _ 44 ?hg (N := 13) ?hd (xs := ([t222, t223] : List Nat)) (inner := [XFn.enc t222, XFn.enc t223]) (ok := fun _ => True) (okp := fun _ => True) ?hr ?hp (fun _ hk => hk) trivial (Below.refl _ _) (Nat.le_refl _) (by simp) ?_; (case hd => rfl); (case hg => rfl); (case hr => first | (go_simp; done) | (go_simp; rfl)); (case hp => exact (Reps.one (show Kd.M Kd.fn _ _ _ t222 [XFn.enc t222] from rfl) (Reps.one (show Kd.M Kd.fn _ _ _ t223 [XFn.enc t223] from rfl) (Reps.none _ _))))
  intro v225 w10 ho11 hb hg_ hnew_
  clear hg_ hnew_
  (first | rw [← Ny224.out] at ho11 | (simp only [Int.reduceToNat] at ho11; rw [← Ny224.out] at ho11))
  have n0_ := Aside0.mk (Kd.R_lower ho11 (below_size (hb2 HB GE220 GE221)))
  have n1_ := Aside0.mk (blk_below (bkx BK220) hb)
  have n2_ := Aside0.mk (blk_below (bkx BK221) hb)
  have n3_ := Aside0.mk (below_step (hb2 HB GE220 GE221) hb)
  clear BK220
  clear BK221
  clear HB
  have HO226 := n0_
  have BK220 := n1_
  have BK221 := n2_
  have HB := n3_
  clear n0_ n1_ n2_ n3_
  clear hb ho11
  obtain ⟨Ao12, co12, eo12⟩ := Kd.R_slice HO226.out
  (first | subst eo12 | (injection eo12 with f1_ f2_ f3_; have f4_ := f1_.symm; have f5_ := f3_.symm; clear f1_ f2_ f3_; subst f4_; subst f5_))
  refine hK.out _ _ ⟨(blk_cell BK220.out 0).trans rfl, (blk_cell BK220.out 1).trans rfl, (blk_cell BK220.out 2).trans rfl⟩ (fun hHeld => ?_)
  clear hK K
  refine norm_ (a' := ?_) ?_ ?_
  rotate_left
  · show Act.put _ (some 13) _ = _
    simp only [Act.put, List.setIfInBounds_toArray, List.set_cons_zero, List.set_cons_succ, i64_w, i32_w]
    rfl
  refine one_ (i := 6) (N := some 14) (bA 11 127) rfl rfl (one_of HT_.out (by kernel_rfl)) (by decide) (fun K hK => ?_)
  refine goes_ Try.func30 (by kernel_rfl) rfl #[.agg #[.int .i64 a0_0, .int .i64 a0_1, .slice A0_2 l0_2.length c0_2], .int .i64 a1, .int .i64 a2, .slice Ao12 y224.length co12] (by rfl) rfl rfl mapx ?_
  with_reducible refine (morphology_perform.calls k a0_0 a0_1 _ _ l0_2 a1 a2 _ _ y224 t227 t228 t229 t232 _ ?side1 ?side2 ?side3 ?side4 A6.out).mono ?_
  (case side1 => repeat (first | exact (Kd.C_below HR0_2.out HB.out) | (with_reducible refine Kd.C_alloc ?_ _) | (with_reducible refine Kd.C_drewN ?_ _) | (with_reducible refine Kd.C_drew ?_)))
  (case side2 => exact HC0_2.out)
  (case side3 => repeat (first | exact (Kd.R_reads' HO226.out).2.2 | (with_reducible refine Kd.C_alloc ?_ _) | (with_reducible refine Kd.C_drewN ?_ _) | (with_reducible refine Kd.C_drew ?_)))
  (case side4 => exact (Kd.R_reads' HO226.out).2.1)
  rintro e w13 ⟨v230, rfl, ho0, hb⟩
  refine ⟨_, rfl, ?_⟩
  have n0_ := Aside0.mk (Kd.R_below (rkx HO226) hb)
  have n1_ := Aside0.mk (Kd.R_lower ho0 (below_size (hb2 HB GE220 GE221)))
  have n2_ := Aside0.mk (blk_below (bkx BK220) hb)
  have n3_ := Aside0.mk (blk_below (bkx BK221) hb)
  have n4_ := Aside0.mk (below_step (hb2 HB GE220 GE221) hb)
  clear HO226
  clear BK220
  clear BK221
  clear HB
  have HO226 := n0_
  have HO231 := n1_
  have BK220 := n2_
  have BK221 := n3_
  have HB := n4_
  clear n0_ n1_ n2_ n3_ n4_
  (try clear hb)
  (try clear hb2)
  (try clear hk)
  (try clear hi)
  (try clear ho0)
  obtain ⟨Ao16, co16, eo16⟩ := Kd.R_slice HO231.out
  (first | subst eo16 | (injection eo16 with f1_ f2_ f3_; have f4_ := f1_.symm; have f5_ := f3_.symm; clear f1_ f2_ f3_; subst f4_; subst f5_))
  refine hK.out _ _ ⟨(blk_cell BK220.out 0).trans rfl, (blk_cell BK220.out 1).trans rfl, (blk_cell BK220.out 2).trans rfl⟩ (fun hHeld => ?_)
  clear hK K
  refine norm_ (a' := ?_) ?_ ?_
  rotate_left
  · show Act.put _ (some 14) _ = _
    simp only [Act.put, List.setIfInBounds_toArray, List.set_cons_zero, List.set_cons_succ, i64_w, i32_w]
    rfl
  refine pt HT_ 7 15 ?_
  refine pt HT_ 8 16 ?_
  refine one_ (i := 9) (N := none) (bA 11 1023) rfl rfl (one_of HT_.out (by kernel_rfl)) (by decide) (fun K hK => ?_)
  have hs14 : w13.cell? ⟨gb221, 0, none⟩ = some (.int .i64 0) := (blk_cell BK221.out 0).trans rfl
  have hfs14 := blk_frozen BK221.out 0
  have hns14_0 := NB220_221.out
  have hms14_0 := NB221_220.out
  have hs15 : w13.cell? ⟨gb221, 1, none⟩ = some (.int .i64 0) := (blk_cell BK221.out 1).trans rfl
  have hfs15 := blk_frozen BK221.out 1
  have hns15_0 := NB220_221.out
  have hms15_0 := NB221_220.out
  have hs17 : w13.cell? ⟨gb221, 2, none⟩ = some (.slice none 0 0) := (blk_cell BK221.out 2).trans rfl
  have hfs17 := blk_frozen BK221.out 2
  have hns17_0 := NB220_221.out
  have hms17_0 := NB221_220.out
  refine skip_ (w1 := ?_) (by rfl) rfl ?_ ?_
  rotate_left
  · go_simp
    rfl
  refine hK.out _ _ ⟨((cell_far (p := ⟨gb221, _, none⟩) NB220_221.out _).trans (((cell_far (p := ⟨gb221, _, none⟩) NB220_221.out _).trans (((cell_far (p := ⟨gb221, _, none⟩) NB220_221.out _).trans (hHeld.1)))))), ((cell_far (p := ⟨gb221, _, none⟩) NB220_221.out _).trans (((cell_far (p := ⟨gb221, _, none⟩) NB220_221.out _).trans (((cell_far (p := ⟨gb221, _, none⟩) NB220_221.out _).trans (hHeld.2.1)))))), ((cell_far (p := ⟨gb221, _, none⟩) NB220_221.out _).trans (((cell_far (p := ⟨gb221, _, none⟩) NB220_221.out _).trans (((cell_far (p := ⟨gb221, _, none⟩) NB220_221.out _).trans (hHeld.2.2))))))⟩ (fun hHeld => ?_)
  clear hK K
  refine pt HT_ 10 7 ?_
  refine done_ (done_of HT_.out (by kernel_rfl)) ?_
  try go_wp2
  refine bodyPost_ret (results_ct rfl _ _ gb221 24 #[.int .i64 t227, .int .i64 t228, .slice Ao16 t229.length co16] (0, 0) _ rfl (by refine bkt ?_; refine blk_put (cs := #[.int .i64 t227, .int .i64 t228, .slice none 0 0]) ?_ 2 _ rfl; refine bkt ?_; refine blk_put (cs := #[.int .i64 t227, .int .i64 0, .slice none 0 0]) ?_ 1 _ rfl; refine bkt ?_; refine blk_put (cs := #[.int .i64 0, .int .i64 0, .slice none 0 0]) ?_ 0 _ rfl; refine bkt ?_; exact BK221.out) Try.underlying24 rfl (by kernel_rfl)) rfl ?_
  exact ⟨_, by first | rfl | (simp [errW_none, errW_some] <;> rfl) | (simp [*, errW_none, errW_some] <;> rfl), by refine rkt ?_; exact Kd.R_mono (Kd.R_far (p := ⟨gb221, 2, none⟩) (Kd.R_far (p := ⟨gb221, 1, none⟩) (Kd.R_far (p := ⟨gb221, 0, none⟩) (Kd.R_types HO231.out BK221.out (by decide)) (fun _ hk => hk.2) (.int .i64 t227)) (fun _ hk => hk.2) (.int .i64 t228)) (fun _ hk => hk.2) (.slice Ao16 t229.length co16)) (fun _ hk => trivial), by repeat (first | (with_reducible first | exact HB.out | apply below_alloc | apply pw_below_drewN | apply below_drew1 | refine below_set ?_ GE220.out | refine below_set ?_ GE221.out) | exact HB.out)⟩

end Go.Proofs.Ytkakiblnhgpdnaa.PR
