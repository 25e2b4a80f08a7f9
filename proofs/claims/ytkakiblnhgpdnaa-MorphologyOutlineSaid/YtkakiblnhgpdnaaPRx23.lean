-- Written by this session's own program (myprint.py).
import Derived.Test.YtkakiblnhgpdnaaPRx0
import Derived.Test.YtkakiblnhgpdnaaPRx6
namespace Go.Proofs.Ytkakiblnhgpdnaa.PR
open Go.RowKit Go.Proofs.YtkakiblnhgpdnaaW.PrintWords Go.Proofs.YtkakiblnhgpdnaaW.PrintLast Go.Proofs.YtkakiblnhgpdnaaW.PrintMore Go.Proofs.Ytkakiblnhgpdnaa.XWords Go.Proofs.Ytkakiblnhgpdnaa.XShort Go.Proofs.Ytkakiblnhgpdnaa.XFn
attribute [local go_sem] max2_int min2_int max_two min_two max_three min_three max_four min_four   -- for this text's walks alone
set_option linter.unusedVariables false
set_option linter.unusedSimpArgs false

/-! ### morphology_Dilate: function 26 -/
def morphology_Dilate.f (k : Nat) (a0_0 : Int) (a0_1 : Int) (l0_2 : List Bool) (a1 : Int) (a2 : Int) : Option (Int × Int × List Bool × Int) := (morphology_dilation.f).bind fun t592 => ((morphology_perform.f k a0_0 a0_1 l0_2 a1 a2 (([t592] : List Nat))).bind fun bt596 => (some (bt596.1, bt596.2.1, bt596.2.2.1, bt596.2.2.2)))
theorem morphology_Dilate.mono : ∀ a0 a1 a2 a3 a4 k, LeO (morphology_Dilate.f k a0 a1 a2 a3 a4) (morphology_Dilate.f (k + 1) a0 a1 a2 a3 a4) := by
  intro a0 a1 a2 a3 a4 k
  unfold morphology_Dilate.f
  repeat' first
      | (with_reducible exact morphology_perform.mono _ _ _ _ _ _ _)
      | (with_reducible exact LeO.refl _)
      | (with_reducible exact LeO.none _)
      | (with_reducible refine LeO.ite ?_ ?_)
      | (with_reducible refine LeO.bind ?_ (fun _ => ?_))
      | exact morphology_perform.mono _ _ _ _ _ _ _
      | exact LeO.none _
      | refine LeO.ite ?_ ?_
      | refine LeO.bind ?_ (fun _ => ?_)
def morphology_Dilate.T1 : Bool × List (List Nat × List Nat) := (true, [([], []), ([], []), ([], []), ([], []), ([3], [3]), ([0, 1, 2, 4, 3], [0, 1, 2, 4]), ([5], [5]), ([5], [5]), ([6, 5, 0, 1, 2, 3, 4, 5, 6, 7], [6]), ([7, 8, 0, 1, 2, 3, 4, 5, 6, 7, 8], [7])])
def morphology_Dilate.B1 : List Nat := [0, 0, 0, 0, 8, 31, 63, 63, 255, 511]
theorem morphology_Dilate.tab1 : rtab .any (opsOf Try.f26 1) = morphology_Dilate.T1 := by kernel_rfl
theorem morphology_Dilate.bits1 : waitsOk morphology_Dilate.T1.2 morphology_Dilate.B1 = true := by kernel_rfl
set_option maxHeartbeats 8000000 in
set_option maxRecDepth 100000 in
theorem morphology_Dilate.calls (k : Nat) (a0_0 : Int) (a0_1 : Int) (A0_2 : Option Addr) (c0_2 : Nat) (l0_2 : List Bool) (a1 : Int) (a2 : Int) (r1 : Int) (r2 : Int) (r3 : List Bool) (r4 : Int) (w : World) (hr0_2 : Kd.C Kd.bool w A0_2 l0_2.length l0_2) (hc0_2 : l0_2.length ≤ c0_2) (h : morphology_Dilate.f k a0_0 a0_1 l0_2 a1 a2 = some (r1, r2, r3, r4)) :
    Calls Try.prog 26 #[.agg #[.int .i64 a0_0, .int .i64 a0_1, .slice A0_2 l0_2.length c0_2], .int .i64 a1, .int .i64 a2] w fun e w' => ∃ v2_ : Value, e = .returned (.tuple #[.agg #[.int .i64 r1, .int .i64 r2, v2_], .int .i64 r4]) ∧ Kd.R Kd.bool 4 w' w.heap.size (fun _ => True) v2_ r3 ∧ Below w.heap.size w w' := by
  have hu24 := Try.underlying24
  have HR0_2 := Aside0.mk hr0_2
  have HC0_2 := Aside0.mk hc0_2
  clear hr0_2 hc0_2
  have HB := Aside0.mk (Below.refl w.heap.size w)
  have H : ((morphology_dilation.f).bind fun t592 => ((morphology_perform.f k a0_0 a0_1 l0_2 a1 a2 (([t592] : List Nat))).bind fun bt596 => (some (bt596.1, bt596.2.1, bt596.2.2.1, bt596.2.2.2)))) = some (r1, r2, r3, r4) := h
  clear h
  replace H := Option.bind_eq_some_iff.mp H
  obtain ⟨t592, A40, H⟩ := H
  replace H : ((morphology_perform.f k a0_0 a0_1 l0_2 a1 a2 (([t592] : List Nat))).bind fun bt596 => (some (bt596.1, bt596.2.1, bt596.2.2.1, bt596.2.2.2))) = some (r1, r2, r3, r4) := H
  have A4 := Aside0.mk A40
  clear A40
  obtain ⟨y593, hy593⟩ : ∃ y_ : List Nat, y_ = (([t592] : List Nat)) := ⟨_, rfl⟩
  replace H : ((morphology_perform.f k a0_0 a0_1 l0_2 a1 a2 y593).bind fun bt596 => (some (bt596.1, bt596.2.1, bt596.2.2.1, bt596.2.2.2))) = some (r1, r2, r3, r4) := by first | (rw [hy593]; with_reducible exact H) | (have H2_ := (Option.bind_some _ _).symm.trans H; rw [hy593]; with_reducible exact H2_) | (have H2_ := (Option.bind_some _ _).symm.trans H; with_reducible exact H2_) | with_reducible exact H | (rw [hy593]; exact H) | exact H
  have Ny593 := Aside0.mk hy593
  clear hy593
  replace H := Option.bind_eq_some_iff.mp H
  obtain ⟨⟨t596, t597, t598, t601⟩, A50, H⟩ := H
  replace H : (some (t596, t597, t598, t601)) = some (r1, r2, r3, r4) := H
  have A5 := Aside0.mk A50
  clear A50
  simp only [Option.some.injEq, Prod.mk.injEq] at H
  obtain ⟨rfl, rfl, rfl, rfl⟩ := H
  go_enter Try.func26, Try.ntmps26
  try go_wp2_with (first | ((with_reducible refine gate_dst (N := 3) rfl ?_); refine box_event ?hg (N := 3) ?hd (cs := #[.int .i64 a0_0, .int .i64 a0_1, .slice A0_2 l0_2.length c0_2]) (t := 24) ?hr ?_; (case hd => rfl); (case hg => rfl); (case hr => first | (go_simp; done) | (go_simp; rfl)); intro gb590 hg w6 hbox hb; have n0_ := Aside0.mk (below_step (hb0 HB) hb); have n1_ := Aside0.mk (hbox); have n2_ := Aside0.mk ((by rw [hg]; exact (below_size (hb0 HB)) : w.heap.size ≤ gb590)); have n3_ := Aside0.mk ((by rw [hg]; exact (below_size (hb0 HB)) : w.heap.size ≤ gb590)); clear HB; have HB := n0_; have BK590 := n1_; have GW590 := n2_; have GE590 := n3_; clear n0_ n1_ n2_ n3_; clear hb hbox hg) | ((with_reducible refine gate_dst (N := 6) rfl ?_); refine box_event ?hg (N := 6) ?hd (cs := #[.int .i64 0, .int .i64 0, .slice none 0 0]) (t := 24) ?hr ?_; (case hd => rfl); (case hg => rfl); (case hr => first | (go_simp; done) | (go_simp; rfl)); intro gb591 hg w7 hbox hb; have n0_ := Aside0.mk (blk_below (bkx BK590) hb); have n1_ := Aside0.mk (below_step (hb1 HB GE590) hb); have n2_ := Aside0.mk (hbox); have n3_ := Aside0.mk ((by rw [hg]; exact (below_size (hb1 HB GE590)) : w.heap.size ≤ gb591)); have n4_ := Aside0.mk ((by rw [hg]; exact (below_size (hb1 HB GE590)) : w.heap.size ≤ gb591)); have n5_ := Aside0.mk (nel hg BK590 : gb590 ≠ gb591); have n6_ := Aside0.mk (neg hg BK590 : gb591 ≠ gb590); clear BK590; clear HB; have BK590 := n0_; have HB := n1_; have BK591 := n2_; have GW591 := n3_; have GE591 := n4_; have NB590_591 := n5_; have NB591_590 := n6_; clear n0_ n1_ n2_ n3_ n4_ n5_ n6_; clear hb hbox hg))
  have n0_ := Aside0.mk (blk_drew BK590.out)
  have n1_ := Aside0.mk (blk_drew BK591.out)
  have n2_ := Aside0.mk (below_drew1 HB.out)
  clear BK590
  clear BK591
  clear HB
  have BK590 := n0_
  have BK591 := n1_
  have HB := n2_
  clear n0_ n1_ n2_
  refine start_ (n := 10) (S := fun w' => w'.cell? ⟨gb590, 0, none⟩ = some (.int .i64 a0_0) ∧ w'.cell? ⟨gb590, 1, none⟩ = some (.int .i64 a0_1) ∧ w'.cell? ⟨gb590, 2, none⟩ = some (.slice A0_2 l0_2.length c0_2)) (ds := []) (bA 10 0) (by kernel_rfl) rfl rfl ⟨(blk_cell BK590.out 0).trans rfl, (blk_cell BK590.out 1).trans rfl, (blk_cell BK590.out 2).trans rfl⟩ (fun hHeld => ?_); refine with_tabW morphology_Dilate.tab1 morphology_Dilate.bits1 (fun HT_ HW_ => ?_)
  generalize w7.drew = w8 at BK590 BK591 HB hHeld ⊢
  refine pt HT_ 1 9 ?_
  refine pt HT_ 2 10 ?_
  refine tk HT_ HW_ hHeld 0 8 ?_
  refine one_ (i := 3) (N := some 11) (bA 10 15) rfl rfl (one_of HT_.out (by kernel_rfl)) (by decide) (fun K hK => ?_)
  refine goes_ Try.func32 (by kernel_rfl) rfl #[] (by rfl) rfl rfl mapx ?_
  with_reducible refine (morphology_dilation.calls  t592 _ A4.out).mono ?_
  rintro e w' ⟨rfl, ⟨nd, rfl⟩⟩
  refine ⟨_, rfl, ?_⟩
  refine hK.out _ _ ⟨(blk_cell BK590.out 0).trans rfl, (blk_cell BK590.out 1).trans rfl, (blk_cell BK590.out 2).trans rfl⟩ (fun hHeld => ?_)
  clear hK K
  refine norm_ (a' := ?_) ?_ ?_
  rotate_left
  · show Act.put _ (some 11) _ = _
    simp only [Act.put, List.setIfInBounds_toArray, List.set_cons_zero, List.set_cons_succ, i64_w, i32_w]
    rfl
  refine one_ (i := 4) (N := some 12) (bA 10 31) rfl rfl (one_of HT_.out (by kernel_rfl)) (by decide) (fun K hK => ?_)
  refine Kd.R_lit_step Kd.fn _ 44 ?hg (N := 12) ?hd (xs := ([t592] : List Nat)) (inner := [XFn.enc t592]) (ok := fun _ => True) (okp := fun _ => True) ?hr ?hp (fun _ hk => hk) trivial (Below.refl _ _) (Nat.le_refl _) (by simp) ?_; (case hd => rfl); (case hg => rfl); (case hr => first | (go_simp; done) | (go_simp; rfl)); (case hp => exact (Reps.one (show Kd.M Kd.fn _ _ _ t592 [XFn.enc t592] from rfl) (Reps.none _ _)))
  intro v594 w9 ho10 hb hg_ hnew_
  clear hg_ hnew_
  (first | rw [← Ny593.out] at ho10 | (simp only [Int.reduceToNat] at ho10; rw [← Ny593.out] at ho10))
  have n0_ := Aside0.mk (Kd.R_lower ho10 (below_size (hb2 HB GE590 GE591)))
  have n1_ := Aside0.mk (blk_below (bkx BK590) hb)
  have n2_ := Aside0.mk (blk_below (bkx BK591) hb)
  have n3_ := Aside0.mk (below_step (hb2 HB GE590 GE591) hb)
  clear BK590
  clear BK591
  clear HB
  have HO595 := n0_
  have BK590 := n1_
  have BK591 := n2_
  have HB := n3_
  clear n0_ n1_ n2_ n3_
  clear hb ho10
  obtain ⟨Ao11, co11, eo11⟩ := Kd.R_slice HO595.out
  (first | subst eo11 | (injection eo11 with f1_ f2_ f3_; have f4_ := f1_.symm; have f5_ := f3_.symm; clear f1_ f2_ f3_; subst f4_; subst f5_))
  refine hK.out _ _ ⟨(blk_cell BK590.out 0).trans rfl, (blk_cell BK590.out 1).trans rfl, (blk_cell BK590.out 2).trans rfl⟩ (fun hHeld => ?_)
  clear hK K
  refine norm_ (a' := ?_) ?_ ?_
  rotate_left
  · show Act.put _ (some 12) _ = _
    simp only [Act.put, List.setIfInBounds_toArray, List.set_cons_zero, List.set_cons_succ, i64_w, i32_w]
    rfl
  refine one_ (i := 5) (N := some 13) (bA 10 63) rfl rfl (one_of HT_.out (by kernel_rfl)) (by decide) (fun K hK => ?_)
  refine goes_ Try.func30 (by kernel_rfl) rfl #[.agg #[.int .i64 a0_0, .int .i64 a0_1, .slice A0_2 l0_2.length c0_2], .int .i64 a1, .int .i64 a2, .slice Ao11 y593.length co11] (by rfl) rfl rfl mapx ?_
  with_reducible refine (morphology_perform.calls k a0_0 a0_1 _ _ l0_2 a1 a2 _ _ y593 t596 t597 t598 t601 _ ?side1 ?side2 ?side3 ?side4 A5.out).mono ?_
  (case side1 => repeat (first | exact (Kd.C_below HR0_2.out HB.out) | (with_reducible refine Kd.C_alloc ?_ _) | (with_reducible refine Kd.C_drewN ?_ _) | (with_reducible refine Kd.C_drew ?_)))
  (case side2 => exact HC0_2.out)
  (case side3 => repeat (first | exact (Kd.R_reads' HO595.out).2.2 | (with_reducible refine Kd.C_alloc ?_ _) | (with_reducible refine Kd.C_drewN ?_ _) | (with_reducible refine Kd.C_drew ?_)))
  (case side4 => exact (Kd.R_reads' HO595.out).2.1)
  rintro e w12 ⟨v599, rfl, ho0, hb⟩
  refine ⟨_, rfl, ?_⟩
  have n0_ := Aside0.mk (Kd.R_below (rkx HO595) hb)
  have n1_ := Aside0.mk (Kd.R_lower ho0 (below_size (hb2 HB GE590 GE591)))
  have n2_ := Aside0.mk (blk_below (bkx BK590) hb)
  have n3_ := Aside0.mk (blk_below (bkx BK591) hb)
  have n4_ := Aside0.mk (below_step (hb2 HB GE590 GE591) hb)
  clear HO595
  clear BK590
  clear BK591
  clear HB
  have HO595 := n0_
  have HO600 := n1_
  have BK590 := n2_
  have BK591 := n3_
  have HB := n4_
  clear n0_ n1_ n2_ n3_ n4_
  (try clear hb)
  (try clear hb2)
  (try clear hk)
  (try clear hi)
  (try clear ho0)
  obtain ⟨Ao15, co15, eo15⟩ := Kd.R_slice HO600.out
  (first | subst eo15 | (injection eo15 with f1_ f2_ f3_; have f4_ := f1_.symm; have f5_ := f3_.symm; clear f1_ f2_ f3_; subst f4_; subst f5_))
  refine hK.out _ _ ⟨(blk_cell BK590.out 0).trans rfl, (blk_cell BK590.out 1).trans rfl, (blk_cell BK590.out 2).trans rfl⟩ (fun hHeld => ?_)
  clear hK K
  refine norm_ (a' := ?_) ?_ ?_
  rotate_left
  · show Act.put _ (some 13) _ = _
    simp only [Act.put, List.setIfInBounds_toArray, List.set_cons_zero, List.set_cons_succ, i64_w, i32_w]
    rfl
  refine pt HT_ 6 14 ?_
  refine pt HT_ 7 15 ?_
  refine one_ (i := 8) (N := none) (bA 10 511) rfl rfl (one_of HT_.out (by kernel_rfl)) (by decide) (fun K hK => ?_)
  have hs13 : w12.cell? ⟨gb591, 0, none⟩ = some (.int .i64 0) := (blk_cell BK591.out 0).trans rfl
  have hfs13 := blk_frozen BK591.out 0
  have hns13_0 := NB590_591.out
  have hms13_0 := NB591_590.out
  have hs14 : w12.cell? ⟨gb591, 1, none⟩ = some (.int .i64 0) := (blk_cell BK591.out 1).trans rfl
  have hfs14 := blk_frozen BK591.out 1
  have hns14_0 := NB590_591.out
  have hms14_0 := NB591_590.out
  have hs16 : w12.cell? ⟨gb591, 2, none⟩ = some (.slice none 0 0) := (blk_cell BK591.out 2).trans rfl
  have hfs16 := blk_frozen BK591.out 2
  have hns16_0 := NB590_591.out
  have hms16_0 := NB591_590.out
  refine skip_ (w1 := ?_) (by rfl) rfl ?_ ?_
  rotate_left
  · go_simp
    rfl
  refine hK.out _ _ ⟨((cell_far (p := ⟨gb591, _, none⟩) NB590_591.out _).trans (((cell_far (p := ⟨gb591, _, none⟩) NB590_591.out _).trans (((cell_far (p := ⟨gb591, _, none⟩) NB590_591.out _).trans (hHeld.1)))))), ((cell_far (p := ⟨gb591, _, none⟩) NB590_591.out _).trans (((cell_far (p := ⟨gb591, _, none⟩) NB590_591.out _).trans (((cell_far (p := ⟨gb591, _, none⟩) NB590_591.out _).trans (hHeld.2.1)))))), ((cell_far (p := ⟨gb591, _, none⟩) NB590_591.out _).trans (((cell_far (p := ⟨gb591, _, none⟩) NB590_591.out _).trans (((cell_far (p := ⟨gb591, _, none⟩) NB590_591.out _).trans (hHeld.2.2))))))⟩ (fun hHeld => ?_)
  clear hK K
  refine pt HT_ 9 7 ?_
  refine done_ (done_of HT_.out (by kernel_rfl)) ?_
  try go_wp2
  refine bodyPost_ret (results_ct rfl _ _ gb591 24 #[.int .i64 t596, .int .i64 t597, .slice Ao15 t598.length co15] (0, 0) _ rfl (by refine bkt ?_; refine blk_put (cs := #[.int .i64 t596, .int .i64 t597, .slice none 0 0]) ?_ 2 _ rfl; refine bkt ?_; refine blk_put (cs := #[.int .i64 t596, .int .i64 0, .slice none 0 0]) ?_ 1 _ rfl; refine bkt ?_; refine blk_put (cs := #[.int .i64 0, .int .i64 0, .slice none 0 0]) ?_ 0 _ rfl; refine bkt ?_; exact BK591.out) Try.underlying24 rfl (by kernel_rfl)) rfl ?_
  exact ⟨_, by first | rfl | (simp [errW_none, errW_some] <;> rfl) | (simp [*, errW_none, errW_some] <;> rfl), by refine rkt ?_; exact Kd.R_mono (Kd.R_far (p := ⟨gb591, 2, none⟩) (Kd.R_far (p := ⟨gb591, 1, none⟩) (Kd.R_far (p := ⟨gb591, 0, none⟩) (Kd.R_types HO600.out BK591.out (by decide)) (fun _ hk => hk.2) (.int .i64 t596)) (fun _ hk => hk.2) (.int .i64 t597)) (fun _ hk => hk.2) (.slice Ao15 t598.length co15)) (fun _ hk => trivial), by repeat (first | (with_reducible first | exact HB.out | apply below_alloc | apply pw_below_drewN | apply below_drew1 | refine below_set ?_ GE590.out | refine below_set ?_ GE591.out) | exact HB.out)⟩

end Go.Proofs.Ytkakiblnhgpdnaa.PR
