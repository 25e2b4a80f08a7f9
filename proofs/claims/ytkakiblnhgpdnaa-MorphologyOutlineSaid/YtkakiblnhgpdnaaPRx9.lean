-- Written by this session's own program (myprint.py).
import Derived.Test.YtkakiblnhgpdnaaPRx0
import Derived.Test.YtkakiblnhgpdnaaPRx6
import Derived.Test.YtkakiblnhgpdnaaPRx7
import Derived.Test.YtkakiblnhgpdnaaPRx8
namespace Go.Proofs.Ytkakiblnhgpdnaa.PR
open Go.RowKit Go.Proofs.YtkakiblnhgpdnaaW.PrintWords Go.Proofs.YtkakiblnhgpdnaaW.PrintLast Go.Proofs.YtkakiblnhgpdnaaW.PrintMore Go.Proofs.Ytkakiblnhgpdnaa.XWords Go.Proofs.Ytkakiblnhgpdnaa.XShort Go.Proofs.Ytkakiblnhgpdnaa.XFn
attribute [local go_sem] max2_int min2_int max_two min_two max_three min_three max_four min_four   -- for this text's walks alone
set_option linter.unusedVariables false
set_option linter.unusedSimpArgs false

/-! ### morphology_Erode: function 24 -/
def morphology_Erode.f (k : Nat) (a0_0 : Int) (a0_1 : Int) (l0_2 : List Bool) (a1 : Int) (a2 : Int) : Option (Int × Int × List Bool × Int) := (morphology_erosion.f).bind fun t279 => ((morphology_perform.f k a0_0 a0_1 l0_2 a1 a2 (([t279] : List Nat))).bind fun bt283 => (some (bt283.1, bt283.2.1, bt283.2.2.1, bt283.2.2.2)))
theorem morphology_Erode.mono : ∀ a0 a1 a2 a3 a4 k, LeO (morphology_Erode.f k a0 a1 a2 a3 a4) (morphology_Erode.f (k + 1) a0 a1 a2 a3 a4) := by
 intro a0 a1 a2 a3 a4 k
 unfold morphology_Erode.f
 repeat' first
   | (with_reducible exact morphology_perform.mono _ _ _ _ _ _ _)
   | (with_reducible exact LeO.refl _)
   | (with_reducible exact LeO.none _)
   | (with_reducible refine LeO.ite ?_ ?_)
   | (with_reducible refine LeO.bind ?_ (fun _ => ?_))
   | exact morphology_perform.mono _ _ _ _ _ _ _
   | exact LeO.none _
   | refine LeO.ite ?_ ?_
   | refine LeO.bind ?_ (fun _ => ?_)
def morphology_Erode.T1 : Bool × List (List Nat × List Nat) := (true, [([], []), ([], []), ([], []), ([], []), ([3], [3]), ([0, 1, 2, 4, 3], [0, 1, 2, 4]), ([5], [5]), ([5], [5]), ([6, 5, 0, 1, 2, 3, 4, 5, 6, 7], [6]), ([7, 8, 0, 1, 2, 3, 4, 5, 6, 7, 8], [7])])
def morphology_Erode.B1 : List Nat := [0, 0, 0, 0, 8, 31, 63, 63, 255, 511]
theorem morphology_Erode.tab1 : rtab .any (opsOf Try.f24 1) = morphology_Erode.T1 := by kernel_rfl
theorem morphology_Erode.bits1 : waitsOk morphology_Erode.T1.2 morphology_Erode.B1 = true := by kernel_rfl
set_option maxHeartbeats 8000000 in
set_option maxRecDepth 100000 in
theorem morphology_Erode.calls (k : Nat) (a0_0 : Int) (a0_1 : Int) (A0_2 : Option Addr) (c0_2 : Nat) (l0_2 : List Bool) (a1 : Int) (a2 : Int) (r1 : Int) (r2 : Int) (r3 : List Bool) (r4 : Int) (w : World) (hr0_2 : Kd.C Kd.bool w A0_2 l0_2.length l0_2) (hc0_2 : l0_2.length ≤ c0_2) (h : morphology_Erode.f k a0_0 a0_1 l0_2 a1 a2 = some (r1, r2, r3, r4)) :
  Calls Try.prog 24 #[.agg #[.int .i64 a0_0, .int .i64 a0_1, .slice A0_2 l0_2.length c0_2], .int .i64 a1, .int .i64 a2] w fun e w' => ∃ v2_ : Value, e = .returned (.tuple #[.agg #[.int .i64 r1, .int .i64 r2, v2_], .int .i64 r4]) ∧ Kd.R Kd.bool 4 w' w.heap.size (fun _ => True) v2_ r3 ∧ Below w.heap.size w w' := by
 have hu24 := Try.underlying24
 have HR0_2 := Aside0.mk hr0_2
 have HC0_2 := Aside0.mk hc0_2
 clear hr0_2 hc0_2
 have HB := Aside0.mk (Below.refl w.heap.size w)
 have H : ((morphology_erosion.f).bind fun t279 => ((morphology_perform.f k a0_0 a0_1 l0_2 a1 a2 (([t279] : List Nat))).bind fun bt283 => (some (bt283.1, bt283.2.1, bt283.2.2.1, bt283.2.2.2)))) = some (r1, r2, r3, r4) := h
 clear h
 replace H := Option.bind_eq_some_iff.mp H
 obtain ⟨t279, A40, H⟩ := H
 replace H : ((morphology_perform.f k a0_0 a0_1 l0_2 a1 a2 (([t279] : List Nat))).bind fun bt283 => (some (bt283.1, bt283.2.1, bt283.2.2.1, bt283.2.2.2))) = some (r1, r2, r3, r4) := H
 have A4 := Aside0.mk A40
 clear A40
 obtain ⟨y280, hy280⟩ : ∃ y_ : List Nat, y_ = (([t279] : List Nat)) := ⟨_, rfl⟩
 replace H : ((morphology_perform.f k a0_0 a0_1 l0_2 a1 a2 y280).bind fun bt283 => (some (bt283.1, bt283.2.1, bt283.2.2.1, bt283.2.2.2))) = some (r1, r2, r3, r4) := by first | (rw [hy280]; with_reducible exact H) | (have H2_ := (Option.bind_some _ _).symm.trans H; rw [hy280]; with_reducible exact H2_) | (have H2_ := (Option.bind_some _ _).symm.trans H; with_reducible exact H2_) | with_reducible exact H | (rw [hy280]; exact H) | exact H
 have Ny280 := Aside0.mk hy280
 clear hy280
 replace H := Option.bind_eq_some_iff.mp H
 obtain ⟨⟨t283, t284, t285, t288⟩, A50, H⟩ := H
 replace H : (some (t283, t284, t285, t288)) = some (r1, r2, r3, r4) := H
 have A5 := Aside0.mk A50
 clear A50
 simp only [Option.some.injEq, Prod.mk.injEq] at H
 obtain ⟨rfl, rfl, rfl, rfl⟩ := H
 go_enter Try.func24, Try.ntmps24
 try go_wp2_with (first | ((with_reducible refine gate_dst (N := 3) rfl ?_); refine box_event ?hg (N := 3) ?hd (cs := #[.int .i64 a0_0, .int .i64 a0_1, .slice A0_2 l0_2.length c0_2]) (t := 24) ?hr ?_; (case hd => rfl); (case hg => rfl); (case hr => first | (go_simp; done) | (go_simp; rfl)); intro gb277 hg w6 hbox hb; have n0_ := Aside0.mk (below_step (hb0 HB) hb); have n1_ := Aside0.mk (hbox); have n2_ := Aside0.mk ((by rw [hg]; exact (below_size (hb0 HB)) : w.heap.size ≤ gb277)); have n3_ := Aside0.mk ((by rw [hg]; exact (below_size (hb0 HB)) : w.heap.size ≤ gb277)); clear HB; have HB := n0_; have BK277 := n1_; have GW277 := n2_; have GE277 := n3_; clear n0_ n1_ n2_ n3_; clear hb hbox hg) | ((with_reducible refine gate_dst (N := 6) rfl ?_); refine box_event ?hg (N := 6) ?hd (cs := #[.int .i64 0, .int .i64 0, .slice none 0 0]) (t := 24) ?hr ?_; (case hd => rfl); (case hg => rfl); (case hr => first | (go_simp; done) | (go_simp; rfl)); intro gb278 hg w7 hbox hb; have n0_ := Aside0.mk (blk_below (bkx BK277) hb); have n1_ := Aside0.mk (below_step (hb1 HB GE277) hb); have n2_ := Aside0.mk (hbox); have n3_ := Aside0.mk ((by rw [hg]; exact (below_size (hb1 HB GE277)) : w.heap.size ≤ gb278)); have n4_ := Aside0.mk ((by rw [hg]; exact (below_size (hb1 HB GE277)) : w.heap.size ≤ gb278)); have n5_ := Aside0.mk (nel hg BK277 : gb277 ≠ gb278); have n6_ := Aside0.mk (neg hg BK277 : gb278 ≠ gb277); clear BK277; clear HB; have BK277 := n0_; have HB := n1_; have BK278 := n2_; have GW278 := n3_; have GE278 := n4_; have NB277_278 := n5_; have NB278_277 := n6_; clear n0_ n1_ n2_ n3_ n4_ n5_ n6_; clear hb hbox hg))
 have n0_ := Aside0.mk (blk_drew BK277.out)
 have n1_ := Aside0.mk (blk_drew BK278.out)
 have n2_ := Aside0.mk (below_drew1 HB.out)
 clear BK277
 clear BK278
 clear HB
 have BK277 := n0_
 have BK278 := n1_
 have HB := n2_
 clear n0_ n1_ n2_
 refine start_ (n := 10) (S := fun w' => w'.cell? ⟨gb277, 0, none⟩ = some (.int .i64 a0_0) ∧ w'.cell? ⟨gb277, 1, none⟩ = some (.int .i64 a0_1) ∧ w'.cell? ⟨gb277, 2, none⟩ = some (.slice A0_2 l0_2.length c0_2)) (ds := []) (bA 10 0) (by kernel_rfl) rfl rfl ⟨(blk_cell BK277.out 0).trans rfl, (blk_cell BK277.out 1).trans rfl, (blk_cell BK277.out 2).trans rfl⟩ (fun hHeld => ?_); refine with_tabW morphology_Erode.tab1 morphology_Erode.bits1 (fun HT_ HW_ => ?_)
 generalize w7.drew = w8 at BK277 BK278 HB hHeld ⊢
 refine pt HT_ 1 9 ?_
 refine pt HT_ 2 10 ?_
 refine tk HT_ HW_ hHeld 0 8 ?_
 refine one_ (i := 3) (N := some 11) (bA 10 15) rfl rfl (one_of HT_.out (by kernel_rfl)) (by decide) (fun K hK => ?_)
 refine goes_ Try.func31 (by kernel_rfl) rfl #[] (by rfl) rfl rfl mapx ?_
 with_reducible refine (morphology_erosion.calls  t279 _ A4.out).mono ?_
 rintro e w' ⟨rfl, ⟨nd, rfl⟩⟩
 refine ⟨_, rfl, ?_⟩
 refine hK.out _ _ ⟨(blk_cell BK277.out 0).trans rfl, (blk_cell BK277.out 1).trans rfl, (blk_cell BK277.out 2).trans rfl⟩ (fun hHeld => ?_)
 clear hK K
 refine norm_ (a' := ?_) ?_ ?_
 rotate_left
 ·show Act.put _ (some 11) _ = _
  simp only [Act.put, List.setIfInBounds_toArray, List.set_cons_zero, List.set_cons_succ, i64_w, i32_w]
  rfl
 refine one_ (i := 4) (N := some 12) (bA 10 31) rfl rfl (one_of HT_.out (by kernel_rfl)) (by decide) (fun K hK => ?_)
 refine Kd.R_lit_step Kd.fn _ 44 ?hg (N := 12) ?hd (xs := ([t279] : List Nat)) (inner := [XFn.enc t279]) (ok := fun _ => True) (okp := fun _ => True) ?hr ?hp (fun _ hk => hk) trivial (Below.refl _ _) (Nat.le_refl _) (by simp) ?_; (case hd => rfl); (case hg => rfl); (case hr => first | (go_simp; done) | (go_simp; rfl)); (case hp => exact (Reps.one (show Kd.M Kd.fn _ _ _ t279 [XFn.enc t279] from rfl) (Reps.none _ _)))
 intro v281 w9 ho10 hb hg_ hnew_
 clear hg_ hnew_
 (first | rw [← Ny280.out] at ho10 | (simp only [Int.reduceToNat] at ho10; rw [← Ny280.out] at ho10))
 have n0_ := Aside0.mk (Kd.R_lower ho10 (below_size (hb2 HB GE277 GE278)))
 have n1_ := Aside0.mk (blk_below (bkx BK277) hb)
 have n2_ := Aside0.mk (blk_below (bkx BK278) hb)
 have n3_ := Aside0.mk (below_step (hb2 HB GE277 GE278) hb)
 clear BK277
 clear BK278
 clear HB
 have HO282 := n0_
 have BK277 := n1_
 have BK278 := n2_
 have HB := n3_
 clear n0_ n1_ n2_ n3_
 clear hb ho10
 obtain ⟨Ao11, co11, eo11⟩ := Kd.R_slice HO282.out
 (first | subst eo11 | (injection eo11 with f1_ f2_ f3_; have f4_ := f1_.symm; have f5_ := f3_.symm; clear f1_ f2_ f3_; subst f4_; subst f5_))
 refine hK.out _ _ ⟨(blk_cell BK277.out 0).trans rfl, (blk_cell BK277.out 1).trans rfl, (blk_cell BK277.out 2).trans rfl⟩ (fun hHeld => ?_)
 clear hK K
 refine norm_ (a' := ?_) ?_ ?_
 rotate_left
 ·show Act.put _ (some 12) _ = _
  simp only [Act.put, List.setIfInBounds_toArray, List.set_cons_zero, List.set_cons_succ, i64_w, i32_w]
  rfl
 refine one_ (i := 5) (N := some 13) (bA 10 63) rfl rfl (one_of HT_.out (by kernel_rfl)) (by decide) (fun K hK => ?_)
 refine goes_ Try.func30 (by kernel_rfl) rfl #[.agg #[.int .i64 a0_0, .int .i64 a0_1, .slice A0_2 l0_2.length c0_2], .int .i64 a1, .int .i64 a2, .slice Ao11 y280.length co11] (by rfl) rfl rfl mapx ?_
 with_reducible refine (morphology_perform.calls k a0_0 a0_1 _ _ l0_2 a1 a2 _ _ y280 t283 t284 t285 t288 _ ?side1 ?side2 ?side3 ?side4 A5.out).mono ?_
 (case side1 => repeat (first | exact (Kd.C_below HR0_2.out HB.out) | (with_reducible refine Kd.C_alloc ?_ _) | (with_reducible refine Kd.C_drewN ?_ _) | (with_reducible refine Kd.C_drew ?_)))
 (case side2 => exact HC0_2.out)
 (case side3 => repeat (first | exact (Kd.R_reads' HO282.out).2.2 | (with_reducible refine Kd.C_alloc ?_ _) | (with_reducible refine Kd.C_drewN ?_ _) | (with_reducible refine Kd.C_drew ?_)))
 (case side4 => exact (Kd.R_reads' HO282.out).2.1)
 rintro e w12 ⟨v286, rfl, ho0, hb⟩
 refine ⟨_, rfl, ?_⟩
 have n0_ := Aside0.mk (Kd.R_below (rkx HO282) hb)
 have n1_ := Aside0.mk (Kd.R_lower ho0 (below_size (hb2 HB GE277 GE278)))
 have n2_ := Aside0.mk (blk_below (bkx BK277) hb)
 have n3_ := Aside0.mk (blk_below (bkx BK278) hb)
 have n4_ := Aside0.mk (below_step (hb2 HB GE277 GE278) hb)
 clear HO282
 clear BK277
 clear BK278
 clear HB
 have HO282 := n0_
 have HO287 := n1_
 have BK277 := n2_
 have BK278 := n3_
 have HB := n4_
 clear n0_ n1_ n2_ n3_ n4_
 (try clear hb)
 (try clear hb2)
 (try clear hk)
 (try clear hi)
 (try clear ho0)
 obtain ⟨Ao15, co15, eo15⟩ := Kd.R_slice HO287.out
 (first | subst eo15 | (injection eo15 with f1_ f2_ f3_; have f4_ := f1_.symm; have f5_ := f3_.symm; clear f1_ f2_ f3_; subst f4_; subst f5_))
 refine hK.out _ _ ⟨(blk_cell BK277.out 0).trans rfl, (blk_cell BK277.out 1).trans rfl, (blk_cell BK277.out 2).trans rfl⟩ (fun hHeld => ?_)
 clear hK K
 refine norm_ (a' := ?_) ?_ ?_
 rotate_left
 ·show Act.put _ (some 13) _ = _
  simp only [Act.put, List.setIfInBounds_toArray, List.set_cons_zero, List.set_cons_succ, i64_w, i32_w]
  rfl
 refine pt HT_ 6 14 ?_
 refine pt HT_ 7 15 ?_
 refine one_ (i := 8) (N := none) (bA 10 511) rfl rfl (one_of HT_.out (by kernel_rfl)) (by decide) (fun K hK => ?_)
 have hs13 : w12.cell? ⟨gb278, 0, none⟩ = some (.int .i64 0) := (blk_cell BK278.out 0).trans rfl
 have hfs13 := blk_frozen BK278.out 0
 have hns13_0 := NB277_278.out
 have hms13_0 := NB278_277.out
 have hs14 : w12.cell? ⟨gb278, 1, none⟩ = some (.int .i64 0) := (blk_cell BK278.out 1).trans rfl
 have hfs14 := blk_frozen BK278.out 1
 have hns14_0 := NB277_278.out
 have hms14_0 := NB278_277.out
 have hs16 : w12.cell? ⟨gb278, 2, none⟩ = some (.slice none 0 0) := (blk_cell BK278.out 2).trans rfl
 have hfs16 := blk_frozen BK278.out 2
 have hns16_0 := NB277_278.out
 have hms16_0 := NB278_277.out
 refine skip_ (w1 := ?_) (by rfl) rfl ?_ ?_
 rotate_left
 ·go_simp
  rfl
 refine hK.out _ _ ⟨((cell_far (p := ⟨gb278, _, none⟩) NB277_278.out _).trans (((cell_far (p := ⟨gb278, _, none⟩) NB277_278.out _).trans (((cell_far (p := ⟨gb278, _, none⟩) NB277_278.out _).trans (hHeld.1)))))), ((cell_far (p := ⟨gb278, _, none⟩) NB277_278.out _).trans (((cell_far (p := ⟨gb278, _, none⟩) NB277_278.out _).trans (((cell_far (p := ⟨gb278, _, none⟩) NB277_278.out _).trans (hHeld.2.1)))))), ((cell_far (p := ⟨gb278, _, none⟩) NB277_278.out _).trans (((cell_far (p := ⟨gb278, _, none⟩) NB277_278.out _).trans (((cell_far (p := ⟨gb278, _, none⟩) NB277_278.out _).trans (hHeld.2.2))))))⟩ (fun hHeld => ?_)
 clear hK K
 refine pt HT_ 9 7 ?_
 refine done_ (done_of HT_.out (by kernel_rfl)) ?_
 try go_wp2
 refine bodyPost_ret (results_ct rfl _ _ gb278 24 #[.int .i64 t283, .int .i64 t284, .slice Ao15 t285.length co15] (0, 0) _ rfl (by refine bkt ?_; refine blk_put (cs := #[.int .i64 t283, .int .i64 t284, .slice none 0 0]) ?_ 2 _ rfl; refine bkt ?_; refine blk_put (cs := #[.int .i64 t283, .int .i64 0, .slice none 0 0]) ?_ 1 _ rfl; refine bkt ?_; refine blk_put (cs := #[.int .i64 0, .int .i64 0, .slice none 0 0]) ?_ 0 _ rfl; refine bkt ?_; exact BK278.out) Try.underlying24 rfl (by kernel_rfl)) rfl ?_
 exact ⟨_, by first | rfl | (simp [errW_none, errW_some] <;> rfl) | (simp [*, errW_none, errW_some] <;> rfl), by refine rkt ?_; exact Kd.R_mono (Kd.R_far (p := ⟨gb278, 2, none⟩) (Kd.R_far (p := ⟨gb278, 1, none⟩) (Kd.R_far (p := ⟨gb278, 0, none⟩) (Kd.R_types HO287.out BK278.out (by decide)) (fun _ hk => hk.2) (.int .i64 t283)) (fun _ hk => hk.2) (.int .i64 t284)) (fun _ hk => hk.2) (.slice Ao15 t285.length co15)) (fun _ hk => trivial), by repeat (first | (with_reducible first | exact HB.out | apply below_alloc | apply pw_below_drewN | apply below_drew1 | refine below_set ?_ GE277.out | refine below_set ?_ GE278.out) | exact HB.out)⟩

/-! ### barscanlaw37_examples: function 12 -/
def barscanlaw37_examples.f (k : Nat)  : Option (Bool) := (some (([true, false, true] : List Bool) : List Bool)).bind fun y289 => ((morphology_Close.f k 3 1 y289 1 0).bind fun bt293 => ((morphology_Open.f k 3 1 y289 1 0).bind fun bt300 => ((some (([true, true, true, true, true, true, true, true, true] : List Bool) : List Bool)).bind fun y307 => ((morphology_Outline.f k 3 3 y307).bind fun bt311 => ((morphology_Majority.f k 3 3 y307 1).bind fun bt318 => ((morphology_Erode.f k 3 1 y289 (-1) 0).bind fun bt325 => (if bt293.2.2.2 = 0 then (if bt300.2.2.2 = 0 then (if bt311.2.2.2 = 0 then (if bt318.2.2.2 = 0 then (if bt325.2.2.2 = 3 then (if (bt293.2.2.1.length : Int) = 3 then (if (bt300.2.2.1.length : Int) = 3 then (if (bt311.2.2.1.length : Int) = 9 then (if (bt318.2.2.1.length : Int) = 9 then (if 0 < (bt293.2.2.1.length : Int) then (if rdOf false bt293.2.2.1 0 = true then (if 1 < (bt293.2.2.1.length : Int) then (if rdOf false bt293.2.2.1 1 = true then (if 2 < (bt293.2.2.1.length : Int) then (if rdOf false bt293.2.2.1 2 = true then (if 0 < (bt300.2.2.1.length : Int) then (if rdOf false bt300.2.2.1 0 = true then (none) else (if 1 < (bt300.2.2.1.length : Int) then (if rdOf false bt300.2.2.1 1 = true then (none) else (if 0 < (bt311.2.2.1.length : Int) then (if rdOf false bt311.2.2.1 0 = true then (if 4 < (bt311.2.2.1.length : Int) then (if rdOf false bt311.2.2.1 4 = true then (none) else (if 0 < (bt318.2.2.1.length : Int) then (if rdOf false bt318.2.2.1 0 = true then (none) else (if 1 < (bt318.2.2.1.length : Int) then (if rdOf false bt318.2.2.1 1 = true then (if 4 < (bt318.2.2.1.length : Int) then (some (rdOf false bt318.2.2.1 4)) else (none)) else (none)) else (none))) else (none))) else (none)) else (none)) else (none))) else (none))) else (none)) else (none)) else (none)) else (none)) else (none)) else (none)) else (none)) else (none)) else (none)) else (none)) else (none)) else (none)) else (none)) else (none)) else (none)) else (none))))))))
theorem barscanlaw37_examples.mono : ∀ k, LeO (barscanlaw37_examples.f k ) (barscanlaw37_examples.f (k + 1) ) := by
 intro  k
 unfold barscanlaw37_examples.f
 repeat' first
   | (with_reducible exact morphology_Close.mono _ _ _ _ _ _)
   | (with_reducible exact morphology_Erode.mono _ _ _ _ _ _)
   | (with_reducible exact morphology_Majority.mono _ _ _ _ _)
   | (with_reducible exact morphology_Open.mono _ _ _ _ _ _)
   | (with_reducible exact morphology_Outline.mono _ _ _ _)
   | (with_reducible exact LeO.refl _)
   | (with_reducible exact LeO.none _)
   | (with_reducible refine LeO.ite ?_ ?_)
   | (with_reducible refine LeO.bind ?_ (fun _ => ?_))
   | exact morphology_Close.mono _ _ _ _ _ _
   | exact morphology_Erode.mono _ _ _ _ _ _
   | exact morphology_Majority.mono _ _ _ _ _
   | exact morphology_Open.mono _ _ _ _ _ _
   | exact morphology_Outline.mono _ _ _ _
   | exact LeO.none _
   | refine LeO.ite ?_ ?_
   | refine LeO.bind ?_ (fun _ => ?_)
set_option maxHeartbeats 8000000 in
set_option maxRecDepth 100000 in
theorem barscanlaw37_examples.calls (k : Nat)  (r : Bool) (w : World) (h : barscanlaw37_examples.f k  = some r) :
  Calls Try.prog 12 #[] w fun e w' => e = .returned (.bool r) ∧ Below w.heap.size w w' := by
 have hu24 := Try.underlying24
 have HB := Aside0.mk (Below.refl w.heap.size w)
 have H : ((some (([true, false, true] : List Bool) : List Bool)).bind fun y289 => ((morphology_Close.f k 3 1 y289 1 0).bind fun bt293 => ((morphology_Open.f k 3 1 y289 1 0).bind fun bt300 => ((some (([true, true, true, true, true, true, true, true, true] : List Bool) : List Bool)).bind fun y307 => ((morphology_Outline.f k 3 3 y307).bind fun bt311 => ((morphology_Majority.f k 3 3 y307 1).bind fun bt318 => ((morphology_Erode.f k 3 1 y289 (-1) 0).bind fun bt325 => (if bt293.2.2.2 = 0 then (if bt300.2.2.2 = 0 then (if bt311.2.2.2 = 0 then (if bt318.2.2.2 = 0 then (if bt325.2.2.2 = 3 then (if (bt293.2.2.1.length : Int) = 3 then (if (bt300.2.2.1.length : Int) = 3 then (if (bt311.2.2.1.length : Int) = 9 then (if (bt318.2.2.1.length : Int) = 9 then (if 0 < (bt293.2.2.1.length : Int) then (if rdOf false bt293.2.2.1 0 = true then (if 1 < (bt293.2.2.1.length : Int) then (if rdOf false bt293.2.2.1 1 = true then (if 2 < (bt293.2.2.1.length : Int) then (if rdOf false bt293.2.2.1 2 = true then (if 0 < (bt300.2.2.1.length : Int) then (if rdOf false bt300.2.2.1 0 = true then (none) else (if 1 < (bt300.2.2.1.length : Int) then (if rdOf false bt300.2.2.1 1 = true then (none) else (if 0 < (bt311.2.2.1.length : Int) then (if rdOf false bt311.2.2.1 0 = true then (if 4 < (bt311.2.2.1.length : Int) then (if rdOf false bt311.2.2.1 4 = true then (none) else (if 0 < (bt318.2.2.1.length : Int) then (if rdOf false bt318.2.2.1 0 = true then (none) else (if 1 < (bt318.2.2.1.length : Int) then (if rdOf false bt318.2.2.1 1 = true then (if 4 < (bt318.2.2.1.length : Int) then (some (rdOf false bt318.2.2.1 4)) else (none)) else (none)) else (none))) else (none))) else (none)) else (none)) else (none))) else (none))) else (none)) else (none)) else (none)) else (none)) else (none)) else (none)) else (none)) else (none)) else (none)) else (none)) else (none)) else (none)) else (none)) else (none)) else (none)) else (none))))))))) = some r := h
 clear h
 obtain ⟨y289, hy289⟩ : ∃ y_ : List Bool, y_ = (([true, false, true] : List Bool)) := ⟨_, rfl⟩
 replace H : ((morphology_Close.f k 3 1 y289 1 0).bind fun bt293 => ((morphology_Open.f k 3 1 y289 1 0).bind fun bt300 => ((some (([true, true, true, true, true, true, true, true, true] : List Bool) : List Bool)).bind fun y307 => ((morphology_Outline.f k 3 3 y307).bind fun bt311 => ((morphology_Majority.f k 3 3 y307 1).bind fun bt318 => ((morphology_Erode.f k 3 1 y289 (-1) 0).bind fun bt325 => (if bt293.2.2.2 = 0 then (if bt300.2.2.2 = 0 then (if bt311.2.2.2 = 0 then (if bt318.2.2.2 = 0 then (if bt325.2.2.2 = 3 then (if (bt293.2.2.1.length : Int) = 3 then (if (bt300.2.2.1.length : Int) = 3 then (if (bt311.2.2.1.length : Int) = 9 then (if (bt318.2.2.1.length : Int) = 9 then (if 0 < (bt293.2.2.1.length : Int) then (if rdOf false bt293.2.2.1 0 = true then (if 1 < (bt293.2.2.1.length : Int) then (if rdOf false bt293.2.2.1 1 = true then (if 2 < (bt293.2.2.1.length : Int) then (if rdOf false bt293.2.2.1 2 = true then (if 0 < (bt300.2.2.1.length : Int) then (if rdOf false bt300.2.2.1 0 = true then (none) else (if 1 < (bt300.2.2.1.length : Int) then (if rdOf false bt300.2.2.1 1 = true then (none) else (if 0 < (bt311.2.2.1.length : Int) then (if rdOf false bt311.2.2.1 0 = true then (if 4 < (bt311.2.2.1.length : Int) then (if rdOf false bt311.2.2.1 4 = true then (none) else (if 0 < (bt318.2.2.1.length : Int) then (if rdOf false bt318.2.2.1 0 = true then (none) else (if 1 < (bt318.2.2.1.length : Int) then (if rdOf false bt318.2.2.1 1 = true then (if 4 < (bt318.2.2.1.length : Int) then (some (rdOf false bt318.2.2.1 4)) else (none)) else (none)) else (none))) else (none))) else (none)) else (none)) else (none))) else (none))) else (none)) else (none)) else (none)) else (none)) else (none)) else (none)) else (none)) else (none)) else (none)) else (none)) else (none)) else (none)) else (none)) else (none)) else (none)) else (none)))))))) = some r := by first | (rw [hy289]; with_reducible exact H) | (have H2_ := (Option.bind_some _ _).symm.trans H; rw [hy289]; with_reducible exact H2_) | (have H2_ := (Option.bind_some _ _).symm.trans H; with_reducible exact H2_) | with_reducible exact H | (rw [hy289]; exact H) | exact H
 have Ny289 := Aside0.mk hy289
 clear hy289
 replace H := Option.bind_eq_some_iff.mp H
 obtain ⟨⟨t293, t294, t295, t298⟩, A10, H⟩ := H
 replace H : ((morphology_Open.f k 3 1 y289 1 0).bind fun bt300 => ((some (([true, true, true, true, true, true, true, true, true] : List Bool) : List Bool)).bind fun y307 => ((morphology_Outline.f k 3 3 y307).bind fun bt311 => ((morphology_Majority.f k 3 3 y307 1).bind fun bt318 => ((morphology_Erode.f k 3 1 y289 (-1) 0).bind fun bt325 => (if t298 = 0 then (if bt300.2.2.2 = 0 then (if bt311.2.2.2 = 0 then (if bt318.2.2.2 = 0 then (if bt325.2.2.2 = 3 then (if (t295.length : Int) = 3 then (if (bt300.2.2.1.length : Int) = 3 then (if (bt311.2.2.1.length : Int) = 9 then (if (bt318.2.2.1.length : Int) = 9 then (if 0 < (t295.length : Int) then (if rdOf false t295 0 = true then (if 1 < (t295.length : Int) then (if rdOf false t295 1 = true then (if 2 < (t295.length : Int) then (if rdOf false t295 2 = true then (if 0 < (bt300.2.2.1.length : Int) then (if rdOf false bt300.2.2.1 0 = true then (none) else (if 1 < (bt300.2.2.1.length : Int) then (if rdOf false bt300.2.2.1 1 = true then (none) else (if 0 < (bt311.2.2.1.length : Int) then (if rdOf false bt311.2.2.1 0 = true then (if 4 < (bt311.2.2.1.length : Int) then (if rdOf false bt311.2.2.1 4 = true then (none) else (if 0 < (bt318.2.2.1.length : Int) then (if rdOf false bt318.2.2.1 0 = true then (none) else (if 1 < (bt318.2.2.1.length : Int) then (if rdOf false bt318.2.2.1 1 = true then (if 4 < (bt318.2.2.1.length : Int) then (some (rdOf false bt318.2.2.1 4)) else (none)) else (none)) else (none))) else (none))) else (none)) else (none)) else (none))) else (none))) else (none)) else (none)) else (none)) else (none)) else (none)) else (none)) else (none)) else (none)) else (none)) else (none)) else (none)) else (none)) else (none)) else (none)) else (none)) else (none))))))) = some r := H
 have A1 := Aside0.mk A10
 clear A10
 replace H := Option.bind_eq_some_iff.mp H
 obtain ⟨⟨t300, t301, t302, t305⟩, A20, H⟩ := H
 replace H : ((some (([true, true, true, true, true, true, true, true, true] : List Bool) : List Bool)).bind fun y307 => ((morphology_Outline.f k 3 3 y307).bind fun bt311 => ((morphology_Majority.f k 3 3 y307 1).bind fun bt318 => ((morphology_Erode.f k 3 1 y289 (-1) 0).bind fun bt325 => (if t298 = 0 then (if t305 = 0 then (if bt311.2.2.2 = 0 then (if bt318.2.2.2 = 0 then (if bt325.2.2.2 = 3 then (if (t295.length : Int) = 3 then (if (t302.length : Int) = 3 then (if (bt311.2.2.1.length : Int) = 9 then (if (bt318.2.2.1.length : Int) = 9 then (if 0 < (t295.length : Int) then (if rdOf false t295 0 = true then (if 1 < (t295.length : Int) then (if rdOf false t295 1 = true then (if 2 < (t295.length : Int) then (if rdOf false t295 2 = true then (if 0 < (t302.length : Int) then (if rdOf false t302 0 = true then (none) else (if 1 < (t302.length : Int) then (if rdOf false t302 1 = true then (none) else (if 0 < (bt311.2.2.1.length : Int) then (if rdOf false bt311.2.2.1 0 = true then (if 4 < (bt311.2.2.1.length : Int) then (if rdOf false bt311.2.2.1 4 = true then (none) else (if 0 < (bt318.2.2.1.length : Int) then (if rdOf false bt318.2.2.1 0 = true then (none) else (if 1 < (bt318.2.2.1.length : Int) then (if rdOf false bt318.2.2.1 1 = true then (if 4 < (bt318.2.2.1.length : Int) then (some (rdOf false bt318.2.2.1 4)) else (none)) else (none)) else (none))) else (none))) else (none)) else (none)) else (none))) else (none))) else (none)) else (none)) else (none)) else (none)) else (none)) else (none)) else (none)) else (none)) else (none)) else (none)) else (none)) else (none)) else (none)) else (none)) else (none)) else (none)))))) = some r := H
 have A2 := Aside0.mk A20
 clear A20
 obtain ⟨y307, hy307⟩ : ∃ y_ : List Bool, y_ = (([true, true, true, true, true, true, true, true, true] : List Bool)) := ⟨_, rfl⟩
 replace H : ((morphology_Outline.f k 3 3 y307).bind fun bt311 => ((morphology_Majority.f k 3 3 y307 1).bind fun bt318 => ((morphology_Erode.f k 3 1 y289 (-1) 0).bind fun bt325 => (if t298 = 0 then (if t305 = 0 then (if bt311.2.2.2 = 0 then (if bt318.2.2.2 = 0 then (if bt325.2.2.2 = 3 then (if (t295.length : Int) = 3 then (if (t302.length : Int) = 3 then (if (bt311.2.2.1.length : Int) = 9 then (if (bt318.2.2.1.length : Int) = 9 then (if 0 < (t295.length : Int) then (if rdOf false t295 0 = true then (if 1 < (t295.length : Int) then (if rdOf false t295 1 = true then (if 2 < (t295.length : Int) then (if rdOf false t295 2 = true then (if 0 < (t302.length : Int) then (if rdOf false t302 0 = true then (none) else (if 1 < (t302.length : Int) then (if rdOf false t302 1 = true then (none) else (if 0 < (bt311.2.2.1.length : Int) then (if rdOf false bt311.2.2.1 0 = true then (if 4 < (bt311.2.2.1.length : Int) then (if rdOf false bt311.2.2.1 4 = true then (none) else (if 0 < (bt318.2.2.1.length : Int) then (if rdOf false bt318.2.2.1 0 = true then (none) else (if 1 < (bt318.2.2.1.length : Int) then (if rdOf false bt318.2.2.1 1 = true then (if 4 < (bt318.2.2.1.length : Int) then (some (rdOf false bt318.2.2.1 4)) else (none)) else (none)) else (none))) else (none))) else (none)) else (none)) else (none))) else (none))) else (none)) else (none)) else (none)) else (none)) else (none)) else (none)) else (none)) else (none)) else (none)) else (none)) else (none)) else (none)) else (none)) else (none)) else (none)) else (none))))) = some r := by first | (rw [hy307]; with_reducible exact H) | (have H2_ := (Option.bind_some _ _).symm.trans H; rw [hy307]; with_reducible exact H2_) | (have H2_ := (Option.bind_some _ _).symm.trans H; with_reducible exact H2_) | with_reducible exact H | (rw [hy307]; exact H) | exact H
 have Ny307 := Aside0.mk hy307
 clear hy307
 replace H := Option.bind_eq_some_iff.mp H
 obtain ⟨⟨t311, t312, t313, t316⟩, A30, H⟩ := H
 replace H : ((morphology_Majority.f k 3 3 y307 1).bind fun bt318 => ((morphology_Erode.f k 3 1 y289 (-1) 0).bind fun bt325 => (if t298 = 0 then (if t305 = 0 then (if t316 = 0 then (if bt318.2.2.2 = 0 then (if bt325.2.2.2 = 3 then (if (t295.length : Int) = 3 then (if (t302.length : Int) = 3 then (if (t313.length : Int) = 9 then (if (bt318.2.2.1.length : Int) = 9 then (if 0 < (t295.length : Int) then (if rdOf false t295 0 = true then (if 1 < (t295.length : Int) then (if rdOf false t295 1 = true then (if 2 < (t295.length : Int) then (if rdOf false t295 2 = true then (if 0 < (t302.length : Int) then (if rdOf false t302 0 = true then (none) else (if 1 < (t302.length : Int) then (if rdOf false t302 1 = true then (none) else (if 0 < (t313.length : Int) then (if rdOf false t313 0 = true then (if 4 < (t313.length : Int) then (if rdOf false t313 4 = true then (none) else (if 0 < (bt318.2.2.1.length : Int) then (if rdOf false bt318.2.2.1 0 = true then (none) else (if 1 < (bt318.2.2.1.length : Int) then (if rdOf false bt318.2.2.1 1 = true then (if 4 < (bt318.2.2.1.length : Int) then (some (rdOf false bt318.2.2.1 4)) else (none)) else (none)) else (none))) else (none))) else (none)) else (none)) else (none))) else (none))) else (none)) else (none)) else (none)) else (none)) else (none)) else (none)) else (none)) else (none)) else (none)) else (none)) else (none)) else (none)) else (none)) else (none)) else (none)) else (none)))) = some r := H
 have A3 := Aside0.mk A30
 clear A30
 replace H := Option.bind_eq_some_iff.mp H
 obtain ⟨⟨t318, t319, t320, t323⟩, A40, H⟩ := H
 replace H : ((morphology_Erode.f k 3 1 y289 (-1) 0).bind fun bt325 => (if t298 = 0 then (if t305 = 0 then (if t316 = 0 then (if t323 = 0 then (if bt325.2.2.2 = 3 then (if (t295.length : Int) = 3 then (if (t302.length : Int) = 3 then (if (t313.length : Int) = 9 then (if (t320.length : Int) = 9 then (if 0 < (t295.length : Int) then (if rdOf false t295 0 = true then (if 1 < (t295.length : Int) then (if rdOf false t295 1 = true then (if 2 < (t295.length : Int) then (if rdOf false t295 2 = true then (if 0 < (t302.length : Int) then (if rdOf false t302 0 = true then (none) else (if 1 < (t302.length : Int) then (if rdOf false t302 1 = true then (none) else (if 0 < (t313.length : Int) then (if rdOf false t313 0 = true then (if 4 < (t313.length : Int) then (if rdOf false t313 4 = true then (none) else (if 0 < (t320.length : Int) then (if rdOf false t320 0 = true then (none) else (if 1 < (t320.length : Int) then (if rdOf false t320 1 = true then (if 4 < (t320.length : Int) then (some (rdOf false t320 4)) else (none)) else (none)) else (none))) else (none))) else (none)) else (none)) else (none))) else (none))) else (none)) else (none)) else (none)) else (none)) else (none)) else (none)) else (none)) else (none)) else (none)) else (none)) else (none)) else (none)) else (none)) else (none)) else (none)) else (none))) = some r := H
 have A4 := Aside0.mk A40
 clear A40
 replace H := Option.bind_eq_some_iff.mp H
 obtain ⟨⟨t325, t326, t327, t330⟩, A50, H⟩ := H
 replace H : (if t298 = 0 then (if t305 = 0 then (if t316 = 0 then (if t323 = 0 then (if t330 = 3 then (if (t295.length : Int) = 3 then (if (t302.length : Int) = 3 then (if (t313.length : Int) = 9 then (if (t320.length : Int) = 9 then (if 0 < (t295.length : Int) then (if rdOf false t295 0 = true then (if 1 < (t295.length : Int) then (if rdOf false t295 1 = true then (if 2 < (t295.length : Int) then (if rdOf false t295 2 = true then (if 0 < (t302.length : Int) then (if rdOf false t302 0 = true then (none) else (if 1 < (t302.length : Int) then (if rdOf false t302 1 = true then (none) else (if 0 < (t313.length : Int) then (if rdOf false t313 0 = true then (if 4 < (t313.length : Int) then (if rdOf false t313 4 = true then (none) else (if 0 < (t320.length : Int) then (if rdOf false t320 0 = true then (none) else (if 1 < (t320.length : Int) then (if rdOf false t320 1 = true then (if 4 < (t320.length : Int) then (some (rdOf false t320 4)) else (none)) else (none)) else (none))) else (none))) else (none)) else (none)) else (none))) else (none))) else (none)) else (none)) else (none)) else (none)) else (none)) else (none)) else (none)) else (none)) else (none)) else (none)) else (none)) else (none)) else (none)) else (none)) else (none)) else (none)) = some r := H
 have A5 := Aside0.mk A50
 clear A50
 by_cases c6 : t298 = 0
 ·rw [if_pos c6] at H
  have c6b0 : (t298 == 0) = true := beq_iff_eq.mpr c6
  have c6b1 : (t298 != 0) = false := bne_eq_false_iff_eq.mpr c6
  clear c6
  by_cases c7 : t305 = 0
  ·rw [if_pos c7] at H
   have c7b0 : (t305 == 0) = true := beq_iff_eq.mpr c7
   have c7b1 : (t305 != 0) = false := bne_eq_false_iff_eq.mpr c7
   clear c7
   by_cases c8 : t316 = 0
   ·rw [if_pos c8] at H
    have c8b0 : (t316 == 0) = true := beq_iff_eq.mpr c8
    have c8b1 : (t316 != 0) = false := bne_eq_false_iff_eq.mpr c8
    clear c8
    by_cases c9 : t323 = 0
    ·rw [if_pos c9] at H
     have c9b0 : (t323 == 0) = true := beq_iff_eq.mpr c9
     have c9b1 : (t323 != 0) = false := bne_eq_false_iff_eq.mpr c9
     clear c9
     by_cases c10 : t330 = 3
     ·rw [if_pos c10] at H
      have c10b0 : (t330 == 3) = true := beq_iff_eq.mpr c10
      have c10b1 : (t330 != 3) = false := bne_eq_false_iff_eq.mpr c10
      clear c10
      by_cases c11 : (t295.length : Int) = 3
      ·rw [if_pos c11] at H
       have c11b0 : ((t295.length : Int) == 3) = true := beq_iff_eq.mpr c11
       have c11b1 : ((t295.length : Int) != 3) = false := bne_eq_false_iff_eq.mpr c11
       clear c11
       by_cases c12 : (t302.length : Int) = 3
       ·rw [if_pos c12] at H
        have c12b0 : ((t302.length : Int) == 3) = true := beq_iff_eq.mpr c12
        have c12b1 : ((t302.length : Int) != 3) = false := bne_eq_false_iff_eq.mpr c12
        clear c12
        by_cases c13 : (t313.length : Int) = 9
        ·rw [if_pos c13] at H
         have c13b0 : ((t313.length : Int) == 9) = true := beq_iff_eq.mpr c13
         have c13b1 : ((t313.length : Int) != 9) = false := bne_eq_false_iff_eq.mpr c13
         clear c13
         by_cases c14 : (t320.length : Int) = 9
         ·rw [if_pos c14] at H
          have c14b0 : ((t320.length : Int) == 9) = true := beq_iff_eq.mpr c14
          have c14b1 : ((t320.length : Int) != 9) = false := bne_eq_false_iff_eq.mpr c14
          clear c14
          by_cases c15 : 0 < (t295.length : Int)
          ·rw [if_pos c15] at H
           have c15b0 : decide (0 < (t295.length : Int)) = true := decide_eq_true c15
           have c15b1 : decide (0 < t295.length) = true := decide_eq_true (by omega)
           clear c15
           obtain ⟨bq16, hbq16⟩ : ∃ b_ : Bool, b_ = (rdOf false t295 0) := ⟨_, rfl⟩
           replace H : (if bq16 = true then (if 1 < (t295.length : Int) then (if rdOf false t295 1 = true then (if 2 < (t295.length : Int) then (if rdOf false t295 2 = true then (if 0 < (t302.length : Int) then (if rdOf false t302 0 = true then (none) else (if 1 < (t302.length : Int) then (if rdOf false t302 1 = true then (none) else (if 0 < (t313.length : Int) then (if rdOf false t313 0 = true then (if 4 < (t313.length : Int) then (if rdOf false t313 4 = true then (none) else (if 0 < (t320.length : Int) then (if rdOf false t320 0 = true then (none) else (if 1 < (t320.length : Int) then (if rdOf false t320 1 = true then (if 4 < (t320.length : Int) then (some (rdOf false t320 4)) else (none)) else (none)) else (none))) else (none))) else (none)) else (none)) else (none))) else (none))) else (none)) else (none)) else (none)) else (none)) else (none)) else (none)) = some r := by rw [← hbq16] at H; exact H
           have Nbq16 := Aside0.mk hbq16
           clear hbq16
           by_cases c17 : bq16 = true
           ·subst c17
            have H1 : (if 1 < (t295.length : Int) then (if rdOf false t295 1 = true then (if 2 < (t295.length : Int) then (if rdOf false t295 2 = true then (if 0 < (t302.length : Int) then (if rdOf false t302 0 = true then (none) else (if 1 < (t302.length : Int) then (if rdOf false t302 1 = true then (none) else (if 0 < (t313.length : Int) then (if rdOf false t313 0 = true then (if 4 < (t313.length : Int) then (if rdOf false t313 4 = true then (none) else (if 0 < (t320.length : Int) then (if rdOf false t320 0 = true then (none) else (if 1 < (t320.length : Int) then (if rdOf false t320 1 = true then (if 4 < (t320.length : Int) then (some (rdOf false t320 4)) else (none)) else (none)) else (none))) else (none))) else (none)) else (none)) else (none))) else (none))) else (none)) else (none)) else (none)) else (none)) else (none)) = some r := by rw [if_pos rfl] at H; exact H
            clear H
            have H := H1
            clear H1
            by_cases c18 : 1 < (t295.length : Int)
            ·rw [if_pos c18] at H
             have c18b0 : decide (1 < (t295.length : Int)) = true := decide_eq_true c18
             have c18b1 : decide (1 < t295.length) = true := decide_eq_true (by omega)
             clear c18
             obtain ⟨bq19, hbq19⟩ : ∃ b_ : Bool, b_ = (rdOf false t295 1) := ⟨_, rfl⟩
             replace H : (if bq19 = true then (if 2 < (t295.length : Int) then (if rdOf false t295 2 = true then (if 0 < (t302.length : Int) then (if rdOf false t302 0 = true then (none) else (if 1 < (t302.length : Int) then (if rdOf false t302 1 = true then (none) else (if 0 < (t313.length : Int) then (if rdOf false t313 0 = true then (if 4 < (t313.length : Int) then (if rdOf false t313 4 = true then (none) else (if 0 < (t320.length : Int) then (if rdOf false t320 0 = true then (none) else (if 1 < (t320.length : Int) then (if rdOf false t320 1 = true then (if 4 < (t320.length : Int) then (some (rdOf false t320 4)) else (none)) else (none)) else (none))) else (none))) else (none)) else (none)) else (none))) else (none))) else (none)) else (none)) else (none)) else (none)) = some r := by rw [← hbq19] at H; exact H
             have Nbq19 := Aside0.mk hbq19
             clear hbq19
             by_cases c20 : bq19 = true
             ·subst c20
              have H1 : (if 2 < (t295.length : Int) then (if rdOf false t295 2 = true then (if 0 < (t302.length : Int) then (if rdOf false t302 0 = true then (none) else (if 1 < (t302.length : Int) then (if rdOf false t302 1 = true then (none) else (if 0 < (t313.length : Int) then (if rdOf false t313 0 = true then (if 4 < (t313.length : Int) then (if rdOf false t313 4 = true then (none) else (if 0 < (t320.length : Int) then (if rdOf false t320 0 = true then (none) else (if 1 < (t320.length : Int) then (if rdOf false t320 1 = true then (if 4 < (t320.length : Int) then (some (rdOf false t320 4)) else (none)) else (none)) else (none))) else (none))) else (none)) else (none)) else (none))) else (none))) else (none)) else (none)) else (none)) = some r := by rw [if_pos rfl] at H; exact H
              clear H
              have H := H1
              clear H1
              by_cases c21 : 2 < (t295.length : Int)
              ·rw [if_pos c21] at H
               have c21b0 : decide (2 < (t295.length : Int)) = true := decide_eq_true c21
               have c21b1 : decide (2 < t295.length) = true := decide_eq_true (by omega)
               clear c21
               obtain ⟨bq22, hbq22⟩ : ∃ b_ : Bool, b_ = (rdOf false t295 2) := ⟨_, rfl⟩
               replace H : (if bq22 = true then (if 0 < (t302.length : Int) then (if rdOf false t302 0 = true then (none) else (if 1 < (t302.length : Int) then (if rdOf false t302 1 = true then (none) else (if 0 < (t313.length : Int) then (if rdOf false t313 0 = true then (if 4 < (t313.length : Int) then (if rdOf false t313 4 = true then (none) else (if 0 < (t320.length : Int) then (if rdOf false t320 0 = true then (none) else (if 1 < (t320.length : Int) then (if rdOf false t320 1 = true then (if 4 < (t320.length : Int) then (some (rdOf false t320 4)) else (none)) else (none)) else (none))) else (none))) else (none)) else (none)) else (none))) else (none))) else (none)) else (none)) = some r := by rw [← hbq22] at H; exact H
               have Nbq22 := Aside0.mk hbq22
               clear hbq22
               by_cases c23 : bq22 = true
               ·subst c23
                have H1 : (if 0 < (t302.length : Int) then (if rdOf false t302 0 = true then (none) else (if 1 < (t302.length : Int) then (if rdOf false t302 1 = true then (none) else (if 0 < (t313.length : Int) then (if rdOf false t313 0 = true then (if 4 < (t313.length : Int) then (if rdOf false t313 4 = true then (none) else (if 0 < (t320.length : Int) then (if rdOf false t320 0 = true then (none) else (if 1 < (t320.length : Int) then (if rdOf false t320 1 = true then (if 4 < (t320.length : Int) then (some (rdOf false t320 4)) else (none)) else (none)) else (none))) else (none))) else (none)) else (none)) else (none))) else (none))) else (none)) = some r := by rw [if_pos rfl] at H; exact H
                clear H
                have H := H1
                clear H1
                by_cases c24 : 0 < (t302.length : Int)
                ·rw [if_pos c24] at H
                 have c24b0 : decide (0 < (t302.length : Int)) = true := decide_eq_true c24
                 have c24b1 : decide (0 < t302.length) = true := decide_eq_true (by omega)
                 clear c24
                 obtain ⟨bq25, hbq25⟩ : ∃ b_ : Bool, b_ = (rdOf false t302 0) := ⟨_, rfl⟩
                 replace H : (if bq25 = true then (none) else (if 1 < (t302.length : Int) then (if rdOf false t302 1 = true then (none) else (if 0 < (t313.length : Int) then (if rdOf false t313 0 = true then (if 4 < (t313.length : Int) then (if rdOf false t313 4 = true then (none) else (if 0 < (t320.length : Int) then (if rdOf false t320 0 = true then (none) else (if 1 < (t320.length : Int) then (if rdOf false t320 1 = true then (if 4 < (t320.length : Int) then (some (rdOf false t320 4)) else (none)) else (none)) else (none))) else (none))) else (none)) else (none)) else (none))) else (none))) = some r := by rw [← hbq25] at H; exact H
                 have Nbq25 := Aside0.mk hbq25
                 clear hbq25
                 by_cases c26 : bq25 = true
                 ·subst c26
                  have H1 : (none) = some r := by rw [if_pos rfl] at H; exact H
                  clear H
                  have H := H1
                  clear H1
                  exact absurd H (by simp)
                 ·replace c26 := Bool.eq_false_iff.mpr c26
                  subst c26
                  have H1 : (if 1 < (t302.length : Int) then (if rdOf false t302 1 = true then (none) else (if 0 < (t313.length : Int) then (if rdOf false t313 0 = true then (if 4 < (t313.length : Int) then (if rdOf false t313 4 = true then (none) else (if 0 < (t320.length : Int) then (if rdOf false t320 0 = true then (none) else (if 1 < (t320.length : Int) then (if rdOf false t320 1 = true then (if 4 < (t320.length : Int) then (some (rdOf false t320 4)) else (none)) else (none)) else (none))) else (none))) else (none)) else (none)) else (none))) else (none)) = some r := by rw [if_neg (show ¬ (false = true) by decide)] at H; exact H
                  clear H
                  have H := H1
                  clear H1
                  by_cases c27 : 1 < (t302.length : Int)
                  ·rw [if_pos c27] at H
                   have c27b0 : decide (1 < (t302.length : Int)) = true := decide_eq_true c27
                   have c27b1 : decide (1 < t302.length) = true := decide_eq_true (by omega)
                   clear c27
                   obtain ⟨bq28, hbq28⟩ : ∃ b_ : Bool, b_ = (rdOf false t302 1) := ⟨_, rfl⟩
                   replace H : (if bq28 = true then (none) else (if 0 < (t313.length : Int) then (if rdOf false t313 0 = true then (if 4 < (t313.length : Int) then (if rdOf false t313 4 = true then (none) else (if 0 < (t320.length : Int) then (if rdOf false t320 0 = true then (none) else (if 1 < (t320.length : Int) then (if rdOf false t320 1 = true then (if 4 < (t320.length : Int) then (some (rdOf false t320 4)) else (none)) else (none)) else (none))) else (none))) else (none)) else (none)) else (none))) = some r := by rw [← hbq28] at H; exact H
                   have Nbq28 := Aside0.mk hbq28
                   clear hbq28
                   by_cases c29 : bq28 = true
                   ·subst c29
                    have H1 : (none) = some r := by rw [if_pos rfl] at H; exact H
                    clear H
                    have H := H1
                    clear H1
                    exact absurd H (by simp)
                   ·replace c29 := Bool.eq_false_iff.mpr c29
                    subst c29
                    have H1 : (if 0 < (t313.length : Int) then (if rdOf false t313 0 = true then (if 4 < (t313.length : Int) then (if rdOf false t313 4 = true then (none) else (if 0 < (t320.length : Int) then (if rdOf false t320 0 = true then (none) else (if 1 < (t320.length : Int) then (if rdOf false t320 1 = true then (if 4 < (t320.length : Int) then (some (rdOf false t320 4)) else (none)) else (none)) else (none))) else (none))) else (none)) else (none)) else (none)) = some r := by rw [if_neg (show ¬ (false = true) by decide)] at H; exact H
                    clear H
                    have H := H1
                    clear H1
                    by_cases c30 : 0 < (t313.length : Int)
                    ·rw [if_pos c30] at H
                     have c30b0 : decide (0 < (t313.length : Int)) = true := decide_eq_true c30
                     have c30b1 : decide (0 < t313.length) = true := decide_eq_true (by omega)
                     clear c30
                     obtain ⟨bq31, hbq31⟩ : ∃ b_ : Bool, b_ = (rdOf false t313 0) := ⟨_, rfl⟩
                     replace H : (if bq31 = true then (if 4 < (t313.length : Int) then (if rdOf false t313 4 = true then (none) else (if 0 < (t320.length : Int) then (if rdOf false t320 0 = true then (none) else (if 1 < (t320.length : Int) then (if rdOf false t320 1 = true then (if 4 < (t320.length : Int) then (some (rdOf false t320 4)) else (none)) else (none)) else (none))) else (none))) else (none)) else (none)) = some r := by rw [← hbq31] at H; exact H
                     have Nbq31 := Aside0.mk hbq31
                     clear hbq31
                     by_cases c32 : bq31 = true
                     ·subst c32
                      have H1 : (if 4 < (t313.length : Int) then (if rdOf false t313 4 = true then (none) else (if 0 < (t320.length : Int) then (if rdOf false t320 0 = true then (none) else (if 1 < (t320.length : Int) then (if rdOf false t320 1 = true then (if 4 < (t320.length : Int) then (some (rdOf false t320 4)) else (none)) else (none)) else (none))) else (none))) else (none)) = some r := by rw [if_pos rfl] at H; exact H
                      clear H
                      have H := H1
                      clear H1
                      by_cases c33 : 4 < (t313.length : Int)
                      ·rw [if_pos c33] at H
                       have c33b0 : decide (4 < (t313.length : Int)) = true := decide_eq_true c33
                       have c33b1 : decide (4 < t313.length) = true := decide_eq_true (by omega)
                       clear c33
                       obtain ⟨bq34, hbq34⟩ : ∃ b_ : Bool, b_ = (rdOf false t313 4) := ⟨_, rfl⟩
                       replace H : (if bq34 = true then (none) else (if 0 < (t320.length : Int) then (if rdOf false t320 0 = true then (none) else (if 1 < (t320.length : Int) then (if rdOf false t320 1 = true then (if 4 < (t320.length : Int) then (some (rdOf false t320 4)) else (none)) else (none)) else (none))) else (none))) = some r := by rw [← hbq34] at H; exact H
                       have Nbq34 := Aside0.mk hbq34
                       clear hbq34
                       by_cases c35 : bq34 = true
                       ·subst c35
                        have H1 : (none) = some r := by rw [if_pos rfl] at H; exact H
                        clear H
                        have H := H1
                        clear H1
                        exact absurd H (by simp)
                       ·replace c35 := Bool.eq_false_iff.mpr c35
                        subst c35
                        have H1 : (if 0 < (t320.length : Int) then (if rdOf false t320 0 = true then (none) else (if 1 < (t320.length : Int) then (if rdOf false t320 1 = true then (if 4 < (t320.length : Int) then (some (rdOf false t320 4)) else (none)) else (none)) else (none))) else (none)) = some r := by rw [if_neg (show ¬ (false = true) by decide)] at H; exact H
                        clear H
                        have H := H1
                        clear H1
                        by_cases c36 : 0 < (t320.length : Int)
                        ·rw [if_pos c36] at H
                         have c36b0 : decide (0 < (t320.length : Int)) = true := decide_eq_true c36
                         have c36b1 : decide (0 < t320.length) = true := decide_eq_true (by omega)
                         clear c36
                         obtain ⟨bq37, hbq37⟩ : ∃ b_ : Bool, b_ = (rdOf false t320 0) := ⟨_, rfl⟩
                         replace H : (if bq37 = true then (none) else (if 1 < (t320.length : Int) then (if rdOf false t320 1 = true then (if 4 < (t320.length : Int) then (some (rdOf false t320 4)) else (none)) else (none)) else (none))) = some r := by rw [← hbq37] at H; exact H
                         have Nbq37 := Aside0.mk hbq37
                         clear hbq37
                         by_cases c38 : bq37 = true
                         ·subst c38
                          have H1 : (none) = some r := by rw [if_pos rfl] at H; exact H
                          clear H
                          have H := H1
                          clear H1
                          exact absurd H (by simp)
                         ·replace c38 := Bool.eq_false_iff.mpr c38
                          subst c38
                          have H1 : (if 1 < (t320.length : Int) then (if rdOf false t320 1 = true then (if 4 < (t320.length : Int) then (some (rdOf false t320 4)) else (none)) else (none)) else (none)) = some r := by rw [if_neg (show ¬ (false = true) by decide)] at H; exact H
                          clear H
                          have H := H1
                          clear H1
                          by_cases c39 : 1 < (t320.length : Int)
                          ·rw [if_pos c39] at H
                           have c39b0 : decide (1 < (t320.length : Int)) = true := decide_eq_true c39
                           have c39b1 : decide (1 < t320.length) = true := decide_eq_true (by omega)
                           clear c39
                           obtain ⟨bq40, hbq40⟩ : ∃ b_ : Bool, b_ = (rdOf false t320 1) := ⟨_, rfl⟩
                           replace H : (if bq40 = true then (if 4 < (t320.length : Int) then (some (rdOf false t320 4)) else (none)) else (none)) = some r := by rw [← hbq40] at H; exact H
                           have Nbq40 := Aside0.mk hbq40
                           clear hbq40
                           by_cases c41 : bq40 = true
                           ·subst c41
                            have H1 : (if 4 < (t320.length : Int) then (some (rdOf false t320 4)) else (none)) = some r := by rw [if_pos rfl] at H; exact H
                            clear H
                            have H := H1
                            clear H1
                            by_cases c42 : 4 < (t320.length : Int)
                            ·rw [if_pos c42] at H
                             have c42b0 : decide (4 < (t320.length : Int)) = true := decide_eq_true c42
                             have c42b1 : decide (4 < t320.length) = true := decide_eq_true (by omega)
                             clear c42
                             obtain rfl := Option.some.inj H
                             go_enter Try.func12, Try.ntmps12
                             go_wp2_with (first | ((with_reducible refine gate_dst (N := 13) rfl ?_); (try (refine gate_guard (by rfl) ?_; dsimp only)); refine Kd.R_lit Kd.bool _ 4 ?hg (N := 13) ?hd (xs := ([true, false, true] : List Bool)) (inner := [.bool true, .bool false, .bool true]) (ok := fun _ => True) (okp := fun _ => True) ?hr ?hp (fun _ hk => hk) trivial (Below.refl _ _) (Nat.le_refl _) (by simp) ?_; (case hd => rfl); (case hg => rfl); (case hr => first | (go_simp; done) | (go_simp; rfl)); (case hp => exact (Reps.one (show Kd.M Kd.bool _ _ _ true [.bool true] from rfl) (Reps.one (show Kd.M Kd.bool _ _ _ false [.bool false] from rfl) (Reps.one (show Kd.M Kd.bool _ _ _ true [.bool true] from rfl) (Reps.none _ _))))); intro v290 w43 ho44 hb hg_ hnew_; clear hg_ hnew_; (first | rw [← Ny289.out] at ho44 | (simp only [Int.reduceToNat] at ho44; rw [← Ny289.out] at ho44)); have n0_ := Aside0.mk (Kd.R_lower ho44 (below_size (hb0 HB))); have n1_ := Aside0.mk (below_step (hb0 HB) hb); clear HB; have HO291 := n0_; have HB := n1_; clear n0_ n1_; clear hb ho44; obtain ⟨Ao45, co45, eo45⟩ := Kd.R_slice HO291.out; subst eo45) | ((with_reducible refine gate_dst (N := 1) rfl ?_); (try (refine gate_guard (by rfl) ?_; dsimp only)); refine box_event ?hg (N := 1) ?hd (cs := #[.int .i64 0, .int .i64 0, .slice none 0 0]) (t := 24) ?hr ?_; (case hd => rfl); (case hg => rfl); (case hr => first | (go_simp; done) | (go_simp; rfl)); intro gb292 hg w46 hbox hb; have n0_ := Aside0.mk (Kd.R_below (rkx HO291) hb); have n1_ := Aside0.mk (below_step (hb0 HB) hb); have n2_ := Aside0.mk (hbox); have n3_ := Aside0.mk ((by rw [hg]; exact (below_size (hb0 HB)) : w.heap.size ≤ gb292)); have n4_ := Aside0.mk ((by rw [hg]; exact (below_size (hb0 HB)) : w.heap.size ≤ gb292)); clear HO291; clear HB; have HO291 := n0_; have HB := n1_; have BK292 := n2_; have GW292 := n3_; have GE292 := n4_; clear n0_ n1_ n2_ n3_ n4_; clear hb hbox hg; have hcz47_0 : w46.cell? ⟨gb292, 0, none⟩ = some (.int .i64 0) := (blk_cell BK292.out 0).trans rfl; have hcz47_1 : w46.cell? ⟨gb292, 1, none⟩ = some (.int .i64 0) := (blk_cell BK292.out 1).trans rfl; have hcz47_2 : w46.cell? ⟨gb292, 2, none⟩ = some (.slice none 0 0) := (blk_cell BK292.out 2).trans rfl; have hfz47_0 := blk_frozen BK292.out 0; have hfz47_1 := blk_frozen BK292.out 1; have hfz47_2 := blk_frozen BK292.out 2) | ((with_reducible refine gate_callee (f := 15) rfl ?_); refine goesL_ (some 17) rfl rfl Try.func15 (by kernel_rfl) rfl #[.agg #[.int .i64 3, .int .i64 1, .slice Ao45 y289.length co45], .int .i64 1, .int .i64 0] rfl mapx ?_; (with_reducible refine (morphology_Close.calls k 3 1 _ _ y289 1 0 t293 t294 t295 t298 _ ?side1 ?side2 A1.out).mono ?_); (case side1 => refine (Kd.R_reads' (e := 4) (base := w.heap.size) (ok := fun k_ => True) (n := y289.length) (c := co45) ?_).2.2; exact (by refine rkt ?_; exact (far3 HO291 BK292))); (case side2 => exact (Kd.R_reads' HO291.out).2.1); rintro e w48 ⟨v296, rfl, ho0, hb⟩; refine ⟨_, rfl, ?_⟩; have n0_ := Aside0.mk (Kd.R_elder' (by refine rkt ?_; exact (far3 HO291 BK292)) (Kd.R_base ho0) hb); have n1_ := Aside0.mk (Kd.R_lower (Kd.R_new' ho0 (Kd.R_lt (by refine rkt ?_; exact (far3 HO291 BK292)))) (below_size (hb1 HB GE292))); have n2_ := Aside0.mk (blk_below (g := gb292) (o := .cells #[.int .i64 3, .int .i64 1, .slice Ao45 y289.length co45] 24 (0, 0)) (by refine bkt ?_; refine blk_put (cs := #[.int .i64 3, .int .i64 1, .slice none 0 0]) ?_ 2 _ rfl; refine bkt ?_; refine blk_put (cs := #[.int .i64 3, .int .i64 0, .slice none 0 0]) ?_ 1 _ rfl; refine bkt ?_; refine blk_put (cs := #[.int .i64 0, .int .i64 0, .slice none 0 0]) ?_ 0 _ rfl; refine bkt ?_; exact BK292.out) hb); have n3_ := Aside0.mk (below_step (hb1 HB GE292) hb); clear HO291; clear BK292; clear HB; have HO291 := n0_; have HO297 := n1_; have BK292 := n2_; have HB := n3_; clear n0_ n1_ n2_ n3_; (try clear hb); (try clear hb2); (try clear hk); (try clear hi); (try clear ho0)) | ((with_reducible refine gate_dst (N := 2) rfl ?_); (try (refine gate_guard (by rfl) ?_; dsimp only)); refine box_event ?hg (N := 2) ?hd (cs := #[.int .i64 0, .int .i64 0, .slice none 0 0]) (t := 24) ?hr ?_; (case hd => rfl); (case hg => rfl); (case hr => first | (go_simp; done) | (go_simp; rfl)); intro gb299 hg w49 hbox hb; have n0_ := Aside0.mk (Kd.R_below (rkx HO291) hb); have n1_ := Aside0.mk (Kd.R_below (rkx HO297) hb); have n2_ := Aside0.mk (blk_below (bkx BK292) hb); have n3_ := Aside0.mk (below_step (hb1 HB GE292) hb); have n4_ := Aside0.mk (hbox); have n5_ := Aside0.mk ((by rw [hg]; exact (below_size (hb1 HB GE292)) : w.heap.size ≤ gb299)); have n6_ := Aside0.mk ((by rw [hg]; exact (below_size (hb1 HB GE292)) : w.heap.size ≤ gb299)); have n7_ := Aside0.mk (nel hg BK292 : gb292 ≠ gb299); have n8_ := Aside0.mk (neg hg BK292 : gb299 ≠ gb292); clear HO291; clear HO297; clear BK292; clear HB; have HO291 := n0_; have HO297 := n1_; have BK292 := n2_; have HB := n3_; have BK299 := n4_; have GW299 := n5_; have GE299 := n6_; have NB292_299 := n7_; have NB299_292 := n8_; clear n0_ n1_ n2_ n3_ n4_ n5_ n6_ n7_ n8_; clear hb hbox hg; have hnb50 := NB299_292.out; have hnc50 := NB292_299.out; have hcz51_0 : w49.cell? ⟨gb299, 0, none⟩ = some (.int .i64 0) := (blk_cell BK299.out 0).trans rfl; have hcz51_1 : w49.cell? ⟨gb299, 1, none⟩ = some (.int .i64 0) := (blk_cell BK299.out 1).trans rfl; have hcz51_2 : w49.cell? ⟨gb299, 2, none⟩ = some (.slice none 0 0) := (blk_cell BK299.out 2).trans rfl; have hfz51_0 := blk_frozen BK299.out 0; have hfz51_1 := blk_frozen BK299.out 1; have hfz51_2 := blk_frozen BK299.out 2; obtain ⟨Ao52, co52, eo52⟩ := Kd.R_slice HO297.out; subst eo52; have hcz53_0 : w49.cell? ⟨gb292, 0, none⟩ = some (.int .i64 3) := (blk_cell BK292.out 0).trans rfl; have hcz53_1 : w49.cell? ⟨gb292, 1, none⟩ = some (.int .i64 1) := (blk_cell BK292.out 1).trans rfl; have hcz53_2 : w49.cell? ⟨gb292, 2, none⟩ = some (.slice Ao45 y289.length co45) := (blk_cell BK292.out 2).trans rfl; have hfz53_0 := blk_frozen BK292.out 0; have hfz53_1 := blk_frozen BK292.out 1; have hfz53_2 := blk_frozen BK292.out 2) | ((with_reducible refine gate_callee (f := 13) rfl ?_); refine goesL_ (some 22) rfl rfl Try.func13 (by kernel_rfl) rfl #[.agg #[.int .i64 3, .int .i64 1, .slice Ao45 y289.length co45], .int .i64 1, .int .i64 0] rfl mapx ?_; (with_reducible refine (morphology_Open.calls k 3 1 _ _ y289 1 0 t300 t301 t302 t305 _ ?side1 ?side2 A2.out).mono ?_); (case side1 => refine (Kd.R_reads' (e := 4) (base := w.heap.size) (ok := fun k_ => (True ∧ some k_ ≠ (.slice Ao52 t295.length co52 : Value).ownBlock)) (n := y289.length) (c := co45) ?_).2.2; exact (by refine rkt ?_; exact (far3 HO291 BK299))); (case side2 => exact (Kd.R_reads' HO291.out).2.1); rintro e w54 ⟨v303, rfl, ho0, hb⟩; refine ⟨_, rfl, ?_⟩; have n0_ := Aside0.mk (Kd.R_elder' (by refine rkt ?_; exact (far3 HO291 BK299)) (Kd.R_base ho0) hb); have n1_ := Aside0.mk (Kd.R_elder' (by refine rkt ?_; exact (far3 HO297 BK299)) (Kd.R_base ho0) hb); have n2_ := Aside0.mk (Kd.R_lower (Kd.R_new' (Kd.R_new' ho0 (Kd.R_lt (by refine rkt ?_; exact (far3 HO291 BK299)))) (Kd.R_lt (by refine rkt ?_; exact (far3 HO297 BK299)))) (below_size (hb2 HB GE292 GE299))); have n3_ := Aside0.mk (blk_below (g := gb292) (o := .cells #[.int .i64 3, .int .i64 1, .slice Ao45 y289.length co45] 24 (0, 0)) (bky BK292 NB292_299) hb); have n4_ := Aside0.mk (blk_below (g := gb299) (o := .cells #[.int .i64 t293, .int .i64 t294, .slice Ao52 t295.length co52] 24 (0, 0)) (by refine bkt ?_; refine blk_put (cs := #[.int .i64 t293, .int .i64 t294, .slice none 0 0]) ?_ 2 _ rfl; refine bkt ?_; refine blk_put (cs := #[.int .i64 t293, .int .i64 0, .slice none 0 0]) ?_ 1 _ rfl; refine bkt ?_; refine blk_put (cs := #[.int .i64 0, .int .i64 0, .slice none 0 0]) ?_ 0 _ rfl; refine bkt ?_; exact BK299.out) hb); have n5_ := Aside0.mk (below_step (hb2 HB GE292 GE299) hb); clear HO291; clear HO297; clear BK292; clear BK299; clear HB; have HO291 := n0_; have HO297 := n1_; have HO304 := n2_; have BK292 := n3_; have BK299 := n4_; have HB := n5_; clear n0_ n1_ n2_ n3_ n4_ n5_; (try clear hb); (try clear hb2); (try clear hk); (try clear hi); (try clear ho0)) | ((with_reducible refine gate_dst (N := 4) rfl ?_); (try (refine gate_guard (by rfl) ?_; dsimp only)); refine box_event ?hg (N := 4) ?hd (cs := #[.int .i64 0, .int .i64 0, .slice none 0 0]) (t := 24) ?hr ?_; (case hd => rfl); (case hg => rfl); (case hr => first | (go_simp; done) | (go_simp; rfl)); intro gb306 hg w55 hbox hb; have n0_ := Aside0.mk (Kd.R_below (rkx HO291) hb); have n1_ := Aside0.mk (Kd.R_below (rkx HO297) hb); have n2_ := Aside0.mk (Kd.R_below (rkx HO304) hb); have n3_ := Aside0.mk (blk_below (bkx BK292) hb); have n4_ := Aside0.mk (blk_below (bkx BK299) hb); have n5_ := Aside0.mk (below_step (hb2 HB GE292 GE299) hb); have n6_ := Aside0.mk (hbox); have n7_ := Aside0.mk ((by rw [hg]; exact (below_size (hb2 HB GE292 GE299)) : w.heap.size ≤ gb306)); have n8_ := Aside0.mk ((by rw [hg]; exact (below_size (hb2 HB GE292 GE299)) : w.heap.size ≤ gb306)); have n9_ := Aside0.mk (nel hg BK292 : gb292 ≠ gb306); have n10_ := Aside0.mk (neg hg BK292 : gb306 ≠ gb292); have n11_ := Aside0.mk (nel hg BK299 : gb299 ≠ gb306); have n12_ := Aside0.mk (neg hg BK299 : gb306 ≠ gb299); clear HO291; clear HO297; clear HO304; clear BK292; clear BK299; clear HB; have HO291 := n0_; have HO297 := n1_; have HO304 := n2_; have BK292 := n3_; have BK299 := n4_; have HB := n5_; have BK306 := n6_; have GW306 := n7_; have GE306 := n8_; have NB292_306 := n9_; have NB306_292 := n10_; have NB299_306 := n11_; have NB306_299 := n12_; clear n0_ n1_ n2_ n3_ n4_ n5_ n6_ n7_ n8_ n9_ n10_ n11_ n12_; clear hb hbox hg; have hnb56 := NB306_292.out; have hnc56 := NB292_306.out; have hnb57 := NB306_299.out; have hnc57 := NB299_306.out; have hcz58_0 : w55.cell? ⟨gb306, 0, none⟩ = some (.int .i64 0) := (blk_cell BK306.out 0).trans rfl; have hcz58_1 : w55.cell? ⟨gb306, 1, none⟩ = some (.int .i64 0) := (blk_cell BK306.out 1).trans rfl; have hcz58_2 : w55.cell? ⟨gb306, 2, none⟩ = some (.slice none 0 0) := (blk_cell BK306.out 2).trans rfl; have hfz58_0 := blk_frozen BK306.out 0; have hfz58_1 := blk_frozen BK306.out 1; have hfz58_2 := blk_frozen BK306.out 2; obtain ⟨Ao59, co59, eo59⟩ := Kd.R_slice HO304.out; subst eo59) | ((with_reducible refine gate_dst (N := 25) rfl ?_); (try (refine gate_guard (by rfl) ?_; dsimp only)); refine Kd.R_lit Kd.bool _ 4 ?hg (N := 25) ?hd (xs := ([true, true, true, true, true, true, true, true, true] : List Bool)) (inner := [.bool true, .bool true, .bool true, .bool true, .bool true, .bool true, .bool true, .bool true, .bool true]) (ok := fun _ => True) (okp := fun _ => True) ?hr ?hp (fun _ hk => hk) trivial (Below.refl _ _) (Nat.le_refl _) (by simp) ?_; (case hd => rfl); (case hg => rfl); (case hr => first | (go_simp; done) | (go_simp; rfl)); (case hp => exact (Reps.one (show Kd.M Kd.bool _ _ _ true [.bool true] from rfl) (Reps.one (show Kd.M Kd.bool _ _ _ true [.bool true] from rfl) (Reps.one (show Kd.M Kd.bool _ _ _ true [.bool true] from rfl) (Reps.one (show Kd.M Kd.bool _ _ _ true [.bool true] from rfl) (Reps.one (show Kd.M Kd.bool _ _ _ true [.bool true] from rfl) (Reps.one (show Kd.M Kd.bool _ _ _ true [.bool true] from rfl) (Reps.one (show Kd.M Kd.bool _ _ _ true [.bool true] from rfl) (Reps.one (show Kd.M Kd.bool _ _ _ true [.bool true] from rfl) (Reps.one (show Kd.M Kd.bool _ _ _ true [.bool true] from rfl) (Reps.none _ _))))))))))); intro v308 w60 ho61 hb hg_ hnew_; clear hg_ hnew_; (first | rw [← Ny307.out] at ho61 | (simp only [Int.reduceToNat] at ho61; rw [← Ny307.out] at ho61)); have n0_ := Aside0.mk (Kd.R_elder' (by refine rkt ?_; exact (far3 HO291 BK306)) (Kd.R_base ho61) hb); have n1_ := Aside0.mk (Kd.R_elder' (by refine rkt ?_; exact (far3 HO297 BK306)) (Kd.R_base ho61) hb); have n2_ := Aside0.mk (Kd.R_elder' (by refine rkt ?_; exact (far3 HO304 BK306)) (Kd.R_base ho61) hb); have n3_ := Aside0.mk (Kd.R_lower (Kd.R_new' (Kd.R_new' (Kd.R_new' ho61 (Kd.R_lt (by refine rkt ?_; exact (far3 HO291 BK306)))) (Kd.R_lt (by refine rkt ?_; exact (far3 HO297 BK306)))) (Kd.R_lt (by refine rkt ?_; exact (far3 HO304 BK306)))) (below_size (hb3 HB GE292 GE299 GE306))); have n4_ := Aside0.mk (blk_below (g := gb292) (o := .cells #[.int .i64 3, .int .i64 1, .slice Ao45 y289.length co45] 24 (0, 0)) (bky BK292 NB292_306) hb); have n5_ := Aside0.mk (blk_below (g := gb299) (o := .cells #[.int .i64 t293, .int .i64 t294, .slice Ao52 t295.length co52] 24 (0, 0)) (bky BK299 NB299_306) hb); have n6_ := Aside0.mk (blk_below (g := gb306) (o := .cells #[.int .i64 t300, .int .i64 t301, .slice Ao59 t302.length co59] 24 (0, 0)) (by refine bkt ?_; refine blk_put (cs := #[.int .i64 t300, .int .i64 t301, .slice none 0 0]) ?_ 2 _ rfl; refine bkt ?_; refine blk_put (cs := #[.int .i64 t300, .int .i64 0, .slice none 0 0]) ?_ 1 _ rfl; refine bkt ?_; refine blk_put (cs := #[.int .i64 0, .int .i64 0, .slice none 0 0]) ?_ 0 _ rfl; refine bkt ?_; exact BK306.out) hb); have n7_ := Aside0.mk (below_step (hb3 HB GE292 GE299 GE306) hb); clear HO291; clear HO297; clear HO304; clear BK292; clear BK299; clear BK306; clear HB; have HO291 := n0_; have HO297 := n1_; have HO304 := n2_; have HO309 := n3_; have BK292 := n4_; have BK299 := n5_; have BK306 := n6_; have HB := n7_; clear n0_ n1_ n2_ n3_ n4_ n5_ n6_ n7_; clear hb ho61; obtain ⟨Ao62, co62, eo62⟩ := Kd.R_slice HO309.out; subst eo62) | ((with_reducible refine gate_dst (N := 6) rfl ?_); (try (refine gate_guard (by rfl) ?_; dsimp only)); refine box_event ?hg (N := 6) ?hd (cs := #[.int .i64 0, .int .i64 0, .slice none 0 0]) (t := 24) ?hr ?_; (case hd => rfl); (case hg => rfl); (case hr => first | (go_simp; done) | (go_simp; rfl)); intro gb310 hg w63 hbox hb; have n0_ := Aside0.mk (Kd.R_below (rkx HO291) hb); have n1_ := Aside0.mk (Kd.R_below (rkx HO297) hb); have n2_ := Aside0.mk (Kd.R_below (rkx HO304) hb); have n3_ := Aside0.mk (Kd.R_below (rkx HO309) hb); have n4_ := Aside0.mk (blk_below (bkx BK292) hb); have n5_ := Aside0.mk (blk_below (bkx BK299) hb); have n6_ := Aside0.mk (blk_below (bkx BK306) hb); have n7_ := Aside0.mk (below_step (hb3 HB GE292 GE299 GE306) hb); have n8_ := Aside0.mk (hbox); have n9_ := Aside0.mk ((by rw [hg]; exact (below_size (hb3 HB GE292 GE299 GE306)) : w.heap.size ≤ gb310)); have n10_ := Aside0.mk ((by rw [hg]; exact (below_size (hb3 HB GE292 GE299 GE306)) : w.heap.size ≤ gb310)); have n11_ := Aside0.mk (nel hg BK292 : gb292 ≠ gb310); have n12_ := Aside0.mk (neg hg BK292 : gb310 ≠ gb292); have n13_ := Aside0.mk (nel hg BK299 : gb299 ≠ gb310); have n14_ := Aside0.mk (neg hg BK299 : gb310 ≠ gb299); have n15_ := Aside0.mk (nel hg BK306 : gb306 ≠ gb310); have n16_ := Aside0.mk (neg hg BK306 : gb310 ≠ gb306); clear HO291; clear HO297; clear HO304; clear HO309; clear BK292; clear BK299; clear BK306; clear HB; have HO291 := n0_; have HO297 := n1_; have HO304 := n2_; have HO309 := n3_; have BK292 := n4_; have BK299 := n5_; have BK306 := n6_; have HB := n7_; have BK310 := n8_; have GW310 := n9_; have GE310 := n10_; have NB292_310 := n11_; have NB310_292 := n12_; have NB299_310 := n13_; have NB310_299 := n14_; have NB306_310 := n15_; have NB310_306 := n16_; clear n0_ n1_ n2_ n3_ n4_ n5_ n6_ n7_ n8_ n9_ n10_ n11_ n12_ n13_ n14_ n15_ n16_; clear hb hbox hg; have hnb64 := NB310_292.out; have hnc64 := NB292_310.out; have hnb65 := NB310_299.out; have hnc65 := NB299_310.out; have hnb66 := NB310_306.out; have hnc66 := NB306_310.out; have hcz67_0 : w63.cell? ⟨gb310, 0, none⟩ = some (.int .i64 0) := (blk_cell BK310.out 0).trans rfl; have hcz67_1 : w63.cell? ⟨gb310, 1, none⟩ = some (.int .i64 0) := (blk_cell BK310.out 1).trans rfl; have hcz67_2 : w63.cell? ⟨gb310, 2, none⟩ = some (.slice none 0 0) := (blk_cell BK310.out 2).trans rfl; have hfz67_0 := blk_frozen BK310.out 0; have hfz67_1 := blk_frozen BK310.out 1; have hfz67_2 := blk_frozen BK310.out 2) | ((with_reducible refine gate_callee (f := 20) rfl ?_); refine goesL_ (some 29) rfl rfl Try.func20 (by kernel_rfl) rfl #[.agg #[.int .i64 3, .int .i64 3, .slice Ao62 y307.length co62]] rfl mapx ?_; (with_reducible refine (morphology_Outline.calls k 3 3 _ _ y307 t311 t312 t313 t316 _ ?side1 ?side2 A3.out).mono ?_); (case side1 => refine (Kd.R_reads' (e := 4) (base := w.heap.size) (ok := fun k_ => (((True ∧ some k_ ≠ (.slice Ao45 y289.length co45 : Value).ownBlock) ∧ some k_ ≠ (.slice Ao52 t295.length co52 : Value).ownBlock) ∧ some k_ ≠ (.slice Ao59 t302.length co59 : Value).ownBlock)) (n := y307.length) (c := co62) ?_).2.2; exact (by refine rkt ?_; exact (far3 HO309 BK310))); (case side2 => exact (Kd.R_reads' HO309.out).2.1); rintro e w68 ⟨v314, rfl, ho0, hb⟩; refine ⟨_, rfl, ?_⟩; have n0_ := Aside0.mk (Kd.R_elder' (by refine rkt ?_; exact (far3 HO291 BK310)) (Kd.R_base ho0) hb); have n1_ := Aside0.mk (Kd.R_elder' (by refine rkt ?_; exact (far3 HO297 BK310)) (Kd.R_base ho0) hb); have n2_ := Aside0.mk (Kd.R_elder' (by refine rkt ?_; exact (far3 HO304 BK310)) (Kd.R_base ho0) hb); have n3_ := Aside0.mk (Kd.R_elder' (by refine rkt ?_; exact (far3 HO309 BK310)) (Kd.R_base ho0) hb); have n4_ := Aside0.mk (Kd.R_lower (Kd.R_new' (Kd.R_new' (Kd.R_new' (Kd.R_new' ho0 (Kd.R_lt (by refine rkt ?_; exact (far3 HO291 BK310)))) (Kd.R_lt (by refine rkt ?_; exact (far3 HO297 BK310)))) (Kd.R_lt (by refine rkt ?_; exact (far3 HO304 BK310)))) (Kd.R_lt (by refine rkt ?_; exact (far3 HO309 BK310)))) (below_size (hb4 HB GE292 GE299 GE306 GE310))); have n5_ := Aside0.mk (blk_below (g := gb292) (o := .cells #[.int .i64 3, .int .i64 1, .slice Ao45 y289.length co45] 24 (0, 0)) (bky BK292 NB292_310) hb); have n6_ := Aside0.mk (blk_below (g := gb299) (o := .cells #[.int .i64 t293, .int .i64 t294, .slice Ao52 t295.length co52] 24 (0, 0)) (bky BK299 NB299_310) hb); have n7_ := Aside0.mk (blk_below (g := gb306) (o := .cells #[.int .i64 t300, .int .i64 t301, .slice Ao59 t302.length co59] 24 (0, 0)) (bky BK306 NB306_310) hb); have n8_ := Aside0.mk (blk_below (g := gb310) (o := .cells #[.int .i64 3, .int .i64 3, .slice Ao62 y307.length co62] 24 (0, 0)) (by refine bkt ?_; refine blk_put (cs := #[.int .i64 3, .int .i64 3, .slice none 0 0]) ?_ 2 _ rfl; refine bkt ?_; refine blk_put (cs := #[.int .i64 3, .int .i64 0, .slice none 0 0]) ?_ 1 _ rfl; refine bkt ?_; refine blk_put (cs := #[.int .i64 0, .int .i64 0, .slice none 0 0]) ?_ 0 _ rfl; refine bkt ?_; exact BK310.out) hb); have n9_ := Aside0.mk (below_step (hb4 HB GE292 GE299 GE306 GE310) hb); clear HO291; clear HO297; clear HO304; clear HO309; clear BK292; clear BK299; clear BK306; clear BK310; clear HB; have HO291 := n0_; have HO297 := n1_; have HO304 := n2_; have HO309 := n3_; have HO315 := n4_; have BK292 := n5_; have BK299 := n6_; have BK306 := n7_; have BK310 := n8_; have HB := n9_; clear n0_ n1_ n2_ n3_ n4_ n5_ n6_ n7_ n8_ n9_; (try clear hb); (try clear hb2); (try clear hk); (try clear hi); (try clear ho0)) | ((with_reducible refine gate_dst (N := 7) rfl ?_); (try (refine gate_guard (by rfl) ?_; dsimp only)); refine box_event ?hg (N := 7) ?hd (cs := #[.int .i64 0, .int .i64 0, .slice none 0 0]) (t := 24) ?hr ?_; (case hd => rfl); (case hg => rfl); (case hr => first | (go_simp; done) | (go_simp; rfl)); intro gb317 hg w69 hbox hb; have n0_ := Aside0.mk (Kd.R_below (rkx HO291) hb); have n1_ := Aside0.mk (Kd.R_below (rkx HO297) hb); have n2_ := Aside0.mk (Kd.R_below (rkx HO304) hb); have n3_ := Aside0.mk (Kd.R_below (rkx HO309) hb); have n4_ := Aside0.mk (Kd.R_below (rkx HO315) hb); have n5_ := Aside0.mk (blk_below (bkx BK292) hb); have n6_ := Aside0.mk (blk_below (bkx BK299) hb); have n7_ := Aside0.mk (blk_below (bkx BK306) hb); have n8_ := Aside0.mk (blk_below (bkx BK310) hb); have n9_ := Aside0.mk (below_step (hb4 HB GE292 GE299 GE306 GE310) hb); have n10_ := Aside0.mk (hbox); have n11_ := Aside0.mk ((by rw [hg]; exact (below_size (hb4 HB GE292 GE299 GE306 GE310)) : w.heap.size ≤ gb317)); have n12_ := Aside0.mk ((by rw [hg]; exact (below_size (hb4 HB GE292 GE299 GE306 GE310)) : w.heap.size ≤ gb317)); have n13_ := Aside0.mk (nel hg BK292 : gb292 ≠ gb317); have n14_ := Aside0.mk (neg hg BK292 : gb317 ≠ gb292); have n15_ := Aside0.mk (nel hg BK299 : gb299 ≠ gb317); have n16_ := Aside0.mk (neg hg BK299 : gb317 ≠ gb299); have n17_ := Aside0.mk (nel hg BK306 : gb306 ≠ gb317); have n18_ := Aside0.mk (neg hg BK306 : gb317 ≠ gb306); have n19_ := Aside0.mk (nel hg BK310 : gb310 ≠ gb317); have n20_ := Aside0.mk (neg hg BK310 : gb317 ≠ gb310); clear HO291; clear HO297; clear HO304; clear HO309; clear HO315; clear BK292; clear BK299; clear BK306; clear BK310; clear HB; have HO291 := n0_; have HO297 := n1_; have HO304 := n2_; have HO309 := n3_; have HO315 := n4_; have BK292 := n5_; have BK299 := n6_; have BK306 := n7_; have BK310 := n8_; have HB := n9_; have BK317 := n10_; have GW317 := n11_; have GE317 := n12_; have NB292_317 := n13_; have NB317_292 := n14_; have NB299_317 := n15_; have NB317_299 := n16_; have NB306_317 := n17_; have NB317_306 := n18_; have NB310_317 := n19_; have NB317_310 := n20_; clear n0_ n1_ n2_ n3_ n4_ n5_ n6_ n7_ n8_ n9_ n10_ n11_ n12_ n13_ n14_ n15_ n16_ n17_ n18_ n19_ n20_; clear hb hbox hg; have hnb70 := NB317_292.out; have hnc70 := NB292_317.out; have hnb71 := NB317_299.out; have hnc71 := NB299_317.out; have hnb72 := NB317_306.out; have hnc72 := NB306_317.out; have hnb73 := NB317_310.out; have hnc73 := NB310_317.out; have hcz74_0 : w69.cell? ⟨gb317, 0, none⟩ = some (.int .i64 0) := (blk_cell BK317.out 0).trans rfl; have hcz74_1 : w69.cell? ⟨gb317, 1, none⟩ = some (.int .i64 0) := (blk_cell BK317.out 1).trans rfl; have hcz74_2 : w69.cell? ⟨gb317, 2, none⟩ = some (.slice none 0 0) := (blk_cell BK317.out 2).trans rfl; have hfz74_0 := blk_frozen BK317.out 0; have hfz74_1 := blk_frozen BK317.out 1; have hfz74_2 := blk_frozen BK317.out 2; obtain ⟨Ao75, co75, eo75⟩ := Kd.R_slice HO315.out; subst eo75; have hcz76_0 : w69.cell? ⟨gb310, 0, none⟩ = some (.int .i64 3) := (blk_cell BK310.out 0).trans rfl; have hcz76_1 : w69.cell? ⟨gb310, 1, none⟩ = some (.int .i64 3) := (blk_cell BK310.out 1).trans rfl; have hcz76_2 : w69.cell? ⟨gb310, 2, none⟩ = some (.slice Ao62 y307.length co62) := (blk_cell BK310.out 2).trans rfl; have hfz76_0 := blk_frozen BK310.out 0; have hfz76_1 := blk_frozen BK310.out 1; have hfz76_2 := blk_frozen BK310.out 2) | ((with_reducible refine gate_callee (f := 18) rfl ?_); refine goesL_ (some 34) rfl rfl Try.func18 (by kernel_rfl) rfl #[.agg #[.int .i64 3, .int .i64 3, .slice Ao62 y307.length co62], .int .i64 1] rfl mapx ?_; (with_reducible refine (morphology_Majority.calls k 3 3 _ _ y307 1 t318 t319 t320 t323 _ ?side1 ?side2 A4.out).mono ?_); (case side1 => refine (Kd.R_reads' (e := 4) (base := w.heap.size) (ok := fun k_ => ((((True ∧ some k_ ≠ (.slice Ao45 y289.length co45 : Value).ownBlock) ∧ some k_ ≠ (.slice Ao52 t295.length co52 : Value).ownBlock) ∧ some k_ ≠ (.slice Ao59 t302.length co59 : Value).ownBlock) ∧ some k_ ≠ (.slice Ao75 t313.length co75 : Value).ownBlock)) (n := y307.length) (c := co62) ?_).2.2; exact (by refine rkt ?_; exact (far3 HO309 BK317))); (case side2 => exact (Kd.R_reads' HO309.out).2.1); rintro e w77 ⟨v321, rfl, ho0, hb⟩; refine ⟨_, rfl, ?_⟩; have n0_ := Aside0.mk (Kd.R_elder' (by refine rkt ?_; exact (far3 HO291 BK317)) (Kd.R_base ho0) hb); have n1_ := Aside0.mk (Kd.R_elder' (by refine rkt ?_; exact (far3 HO297 BK317)) (Kd.R_base ho0) hb); have n2_ := Aside0.mk (Kd.R_elder' (by refine rkt ?_; exact (far3 HO304 BK317)) (Kd.R_base ho0) hb); have n3_ := Aside0.mk (Kd.R_elder' (by refine rkt ?_; exact (far3 HO309 BK317)) (Kd.R_base ho0) hb); have n4_ := Aside0.mk (Kd.R_elder' (by refine rkt ?_; exact (far3 HO315 BK317)) (Kd.R_base ho0) hb); have n5_ := Aside0.mk (Kd.R_lower (Kd.R_new' (Kd.R_new' (Kd.R_new' (Kd.R_new' (Kd.R_new' ho0 (Kd.R_lt (by refine rkt ?_; exact (far3 HO291 BK317)))) (Kd.R_lt (by refine rkt ?_; exact (far3 HO297 BK317)))) (Kd.R_lt (by refine rkt ?_; exact (far3 HO304 BK317)))) (Kd.R_lt (by refine rkt ?_; exact (far3 HO309 BK317)))) (Kd.R_lt (by refine rkt ?_; exact (far3 HO315 BK317)))) (below_size (hb5 HB GE292 GE299 GE306 GE310 GE317))); have n6_ := Aside0.mk (blk_below (g := gb292) (o := .cells #[.int .i64 3, .int .i64 1, .slice Ao45 y289.length co45] 24 (0, 0)) (bky BK292 NB292_317) hb); have n7_ := Aside0.mk (blk_below (g := gb299) (o := .cells #[.int .i64 t293, .int .i64 t294, .slice Ao52 t295.length co52] 24 (0, 0)) (bky BK299 NB299_317) hb); have n8_ := Aside0.mk (blk_below (g := gb306) (o := .cells #[.int .i64 t300, .int .i64 t301, .slice Ao59 t302.length co59] 24 (0, 0)) (bky BK306 NB306_317) hb); have n9_ := Aside0.mk (blk_below (g := gb310) (o := .cells #[.int .i64 3, .int .i64 3, .slice Ao62 y307.length co62] 24 (0, 0)) (bky BK310 NB310_317) hb); have n10_ := Aside0.mk (blk_below (g := gb317) (o := .cells #[.int .i64 t311, .int .i64 t312, .slice Ao75 t313.length co75] 24 (0, 0)) (by refine bkt ?_; refine blk_put (cs := #[.int .i64 t311, .int .i64 t312, .slice none 0 0]) ?_ 2 _ rfl; refine bkt ?_; refine blk_put (cs := #[.int .i64 t311, .int .i64 0, .slice none 0 0]) ?_ 1 _ rfl; refine bkt ?_; refine blk_put (cs := #[.int .i64 0, .int .i64 0, .slice none 0 0]) ?_ 0 _ rfl; refine bkt ?_; exact BK317.out) hb); have n11_ := Aside0.mk (below_step (hb5 HB GE292 GE299 GE306 GE310 GE317) hb); clear HO291; clear HO297; clear HO304; clear HO309; clear HO315; clear BK292; clear BK299; clear BK306; clear BK310; clear BK317; clear HB; have HO291 := n0_; have HO297 := n1_; have HO304 := n2_; have HO309 := n3_; have HO315 := n4_; have HO322 := n5_; have BK292 := n6_; have BK299 := n7_; have BK306 := n8_; have BK310 := n9_; have BK317 := n10_; have HB := n11_; clear n0_ n1_ n2_ n3_ n4_ n5_ n6_ n7_ n8_ n9_ n10_ n11_; (try clear hb); (try clear hb2); (try clear hk); (try clear hi); (try clear ho0)) | ((with_reducible refine gate_dst (N := 9) rfl ?_); (try (refine gate_guard (by rfl) ?_; dsimp only)); refine box_event ?hg (N := 9) ?hd (cs := #[.int .i64 0, .int .i64 0, .slice none 0 0]) (t := 24) ?hr ?_; (case hd => rfl); (case hg => rfl); (case hr => first | (go_simp; done) | (go_simp; rfl)); intro gb324 hg w78 hbox hb; have n0_ := Aside0.mk (Kd.R_below (rkx HO291) hb); have n1_ := Aside0.mk (Kd.R_below (rkx HO297) hb); have n2_ := Aside0.mk (Kd.R_below (rkx HO304) hb); have n3_ := Aside0.mk (Kd.R_below (rkx HO309) hb); have n4_ := Aside0.mk (Kd.R_below (rkx HO315) hb); have n5_ := Aside0.mk (Kd.R_below (rkx HO322) hb); have n6_ := Aside0.mk (blk_below (bkx BK292) hb); have n7_ := Aside0.mk (blk_below (bkx BK299) hb); have n8_ := Aside0.mk (blk_below (bkx BK306) hb); have n9_ := Aside0.mk (blk_below (bkx BK310) hb); have n10_ := Aside0.mk (blk_below (bkx BK317) hb); have n11_ := Aside0.mk (below_step (hb5 HB GE292 GE299 GE306 GE310 GE317) hb); have n12_ := Aside0.mk (hbox); have n13_ := Aside0.mk ((by rw [hg]; exact (below_size (hb5 HB GE292 GE299 GE306 GE310 GE317)) : w.heap.size ≤ gb324)); have n14_ := Aside0.mk ((by rw [hg]; exact (below_size (hb5 HB GE292 GE299 GE306 GE310 GE317)) : w.heap.size ≤ gb324)); have n15_ := Aside0.mk (nel hg BK292 : gb292 ≠ gb324); have n16_ := Aside0.mk (neg hg BK292 : gb324 ≠ gb292); have n17_ := Aside0.mk (nel hg BK299 : gb299 ≠ gb324); have n18_ := Aside0.mk (neg hg BK299 : gb324 ≠ gb299); have n19_ := Aside0.mk (nel hg BK306 : gb306 ≠ gb324); have n20_ := Aside0.mk (neg hg BK306 : gb324 ≠ gb306); have n21_ := Aside0.mk (nel hg BK310 : gb310 ≠ gb324); have n22_ := Aside0.mk (neg hg BK310 : gb324 ≠ gb310); have n23_ := Aside0.mk (nel hg BK317 : gb317 ≠ gb324); have n24_ := Aside0.mk (neg hg BK317 : gb324 ≠ gb317); clear HO291; clear HO297; clear HO304; clear HO309; clear HO315; clear HO322; clear BK292; clear BK299; clear BK306; clear BK310; clear BK317; clear HB; have HO291 := n0_; have HO297 := n1_; have HO304 := n2_; have HO309 := n3_; have HO315 := n4_; have HO322 := n5_; have BK292 := n6_; have BK299 := n7_; have BK306 := n8_; have BK310 := n9_; have BK317 := n10_; have HB := n11_; have BK324 := n12_; have GW324 := n13_; have GE324 := n14_; have NB292_324 := n15_; have NB324_292 := n16_; have NB299_324 := n17_; have NB324_299 := n18_; have NB306_324 := n19_; have NB324_306 := n20_; have NB310_324 := n21_; have NB324_310 := n22_; have NB317_324 := n23_; have NB324_317 := n24_; clear n0_ n1_ n2_ n3_ n4_ n5_ n6_ n7_ n8_ n9_ n10_ n11_ n12_ n13_ n14_ n15_ n16_ n17_ n18_ n19_ n20_ n21_ n22_ n23_ n24_; clear hb hbox hg; have hnb79 := NB324_292.out; have hnc79 := NB292_324.out; have hnb80 := NB324_299.out; have hnc80 := NB299_324.out; have hnb81 := NB324_306.out; have hnc81 := NB306_324.out; have hnb82 := NB324_310.out; have hnc82 := NB310_324.out; have hnb83 := NB324_317.out; have hnc83 := NB317_324.out; have hcz84_0 : w78.cell? ⟨gb324, 0, none⟩ = some (.int .i64 0) := (blk_cell BK324.out 0).trans rfl; have hcz84_1 : w78.cell? ⟨gb324, 1, none⟩ = some (.int .i64 0) := (blk_cell BK324.out 1).trans rfl; have hcz84_2 : w78.cell? ⟨gb324, 2, none⟩ = some (.slice none 0 0) := (blk_cell BK324.out 2).trans rfl; have hfz84_0 := blk_frozen BK324.out 0; have hfz84_1 := blk_frozen BK324.out 1; have hfz84_2 := blk_frozen BK324.out 2; obtain ⟨Ao85, co85, eo85⟩ := Kd.R_slice HO322.out; subst eo85; have hcz86_0 : w78.cell? ⟨gb292, 0, none⟩ = some (.int .i64 3) := (blk_cell BK292.out 0).trans rfl; have hcz86_1 : w78.cell? ⟨gb292, 1, none⟩ = some (.int .i64 1) := (blk_cell BK292.out 1).trans rfl; have hcz86_2 : w78.cell? ⟨gb292, 2, none⟩ = some (.slice Ao45 y289.length co45) := (blk_cell BK292.out 2).trans rfl; have hfz86_0 := blk_frozen BK292.out 0; have hfz86_1 := blk_frozen BK292.out 1; have hfz86_2 := blk_frozen BK292.out 2) | ((with_reducible refine gate_callee (f := 24) rfl ?_); refine goesL_ (some 39) rfl rfl Try.func24 (by kernel_rfl) rfl #[.agg #[.int .i64 3, .int .i64 1, .slice Ao45 y289.length co45], .int .i64 (-1), .int .i64 0] rfl mapx ?_; (with_reducible refine (morphology_Erode.calls k 3 1 _ _ y289 (-1) 0 t325 t326 t327 t330 _ ?side1 ?side2 A5.out).mono ?_); (case side1 => refine (Kd.R_reads' (e := 4) (base := w.heap.size) (ok := fun k_ => (((((True ∧ some k_ ≠ (.slice Ao52 t295.length co52 : Value).ownBlock) ∧ some k_ ≠ (.slice Ao59 t302.length co59 : Value).ownBlock) ∧ some k_ ≠ (.slice Ao62 y307.length co62 : Value).ownBlock) ∧ some k_ ≠ (.slice Ao75 t313.length co75 : Value).ownBlock) ∧ some k_ ≠ (.slice Ao85 t320.length co85 : Value).ownBlock)) (n := y289.length) (c := co45) ?_).2.2; exact (by refine rkt ?_; exact (far3 HO291 BK324))); (case side2 => exact (Kd.R_reads' HO291.out).2.1); rintro e w87 ⟨v328, rfl, ho0, hb⟩; refine ⟨_, rfl, ?_⟩; have n0_ := Aside0.mk (Kd.R_elder' (by refine rkt ?_; exact (far3 HO291 BK324)) (Kd.R_base ho0) hb); have n1_ := Aside0.mk (Kd.R_elder' (by refine rkt ?_; exact (far3 HO297 BK324)) (Kd.R_base ho0) hb); have n2_ := Aside0.mk (Kd.R_elder' (by refine rkt ?_; exact (far3 HO304 BK324)) (Kd.R_base ho0) hb); have n3_ := Aside0.mk (Kd.R_elder' (by refine rkt ?_; exact (far3 HO309 BK324)) (Kd.R_base ho0) hb); have n4_ := Aside0.mk (Kd.R_elder' (by refine rkt ?_; exact (far3 HO315 BK324)) (Kd.R_base ho0) hb); have n5_ := Aside0.mk (Kd.R_elder' (by refine rkt ?_; exact (far3 HO322 BK324)) (Kd.R_base ho0) hb); have n6_ := Aside0.mk (Kd.R_lower (Kd.R_new' (Kd.R_new' (Kd.R_new' (Kd.R_new' (Kd.R_new' (Kd.R_new' ho0 (Kd.R_lt (by refine rkt ?_; exact (far3 HO291 BK324)))) (Kd.R_lt (by refine rkt ?_; exact (far3 HO297 BK324)))) (Kd.R_lt (by refine rkt ?_; exact (far3 HO304 BK324)))) (Kd.R_lt (by refine rkt ?_; exact (far3 HO309 BK324)))) (Kd.R_lt (by refine rkt ?_; exact (far3 HO315 BK324)))) (Kd.R_lt (by refine rkt ?_; exact (far3 HO322 BK324)))) (below_size (hb6 HB GE292 GE299 GE306 GE310 GE317 GE324))); have n7_ := Aside0.mk (blk_below (g := gb292) (o := .cells #[.int .i64 3, .int .i64 1, .slice Ao45 y289.length co45] 24 (0, 0)) (bky BK292 NB292_324) hb); have n8_ := Aside0.mk (blk_below (g := gb299) (o := .cells #[.int .i64 t293, .int .i64 t294, .slice Ao52 t295.length co52] 24 (0, 0)) (bky BK299 NB299_324) hb); have n9_ := Aside0.mk (blk_below (g := gb306) (o := .cells #[.int .i64 t300, .int .i64 t301, .slice Ao59 t302.length co59] 24 (0, 0)) (bky BK306 NB306_324) hb); have n10_ := Aside0.mk (blk_below (g := gb310) (o := .cells #[.int .i64 3, .int .i64 3, .slice Ao62 y307.length co62] 24 (0, 0)) (bky BK310 NB310_324) hb); have n11_ := Aside0.mk (blk_below (g := gb317) (o := .cells #[.int .i64 t311, .int .i64 t312, .slice Ao75 t313.length co75] 24 (0, 0)) (bky BK317 NB317_324) hb); have n12_ := Aside0.mk (blk_below (g := gb324) (o := .cells #[.int .i64 t318, .int .i64 t319, .slice Ao85 t320.length co85] 24 (0, 0)) (by refine bkt ?_; refine blk_put (cs := #[.int .i64 t318, .int .i64 t319, .slice none 0 0]) ?_ 2 _ rfl; refine bkt ?_; refine blk_put (cs := #[.int .i64 t318, .int .i64 0, .slice none 0 0]) ?_ 1 _ rfl; refine bkt ?_; refine blk_put (cs := #[.int .i64 0, .int .i64 0, .slice none 0 0]) ?_ 0 _ rfl; refine bkt ?_; exact BK324.out) hb); have n13_ := Aside0.mk (below_step (hb6 HB GE292 GE299 GE306 GE310 GE317 GE324) hb); clear HO291; clear HO297; clear HO304; clear HO309; clear HO315; clear HO322; clear BK292; clear BK299; clear BK306; clear BK310; clear BK317; clear BK324; clear HB; have HO291 := n0_; have HO297 := n1_; have HO304 := n2_; have HO309 := n3_; have HO315 := n4_; have HO322 := n5_; have HO329 := n6_; have BK292 := n7_; have BK299 := n8_; have BK306 := n9_; have BK310 := n10_; have BK317 := n11_; have BK324 := n12_; have HB := n13_; clear n0_ n1_ n2_ n3_ n4_ n5_ n6_ n7_ n8_ n9_ n10_ n11_ n12_ n13_; (try clear hb); (try clear hb2); (try clear hk); (try clear hi); (try clear ho0)) | ((with_reducible refine gate_dst (N := 11) rfl ?_); (try (refine gate_guard (by rfl) ?_; dsimp only)); refine box_event ?hg (N := 11) ?hd (cs := #[.int .i64 0, .int .i64 0, .slice none 0 0]) (t := 24) ?hr ?_; (case hd => rfl); (case hg => rfl); (case hr => first | (go_simp; done) | (go_simp; rfl)); intro gb331 hg w88 hbox hb; have n0_ := Aside0.mk (Kd.R_below (rkx HO291) hb); have n1_ := Aside0.mk (Kd.R_below (rkx HO297) hb); have n2_ := Aside0.mk (Kd.R_below (rkx HO304) hb); have n3_ := Aside0.mk (Kd.R_below (rkx HO309) hb); have n4_ := Aside0.mk (Kd.R_below (rkx HO315) hb); have n5_ := Aside0.mk (Kd.R_below (rkx HO322) hb); have n6_ := Aside0.mk (Kd.R_below (rkx HO329) hb); have n7_ := Aside0.mk (blk_below (bkx BK292) hb); have n8_ := Aside0.mk (blk_below (bkx BK299) hb); have n9_ := Aside0.mk (blk_below (bkx BK306) hb); have n10_ := Aside0.mk (blk_below (bkx BK310) hb); have n11_ := Aside0.mk (blk_below (bkx BK317) hb); have n12_ := Aside0.mk (blk_below (bkx BK324) hb); have n13_ := Aside0.mk (below_step (hb6 HB GE292 GE299 GE306 GE310 GE317 GE324) hb); have n14_ := Aside0.mk (hbox); have n15_ := Aside0.mk ((by rw [hg]; exact (below_size (hb6 HB GE292 GE299 GE306 GE310 GE317 GE324)) : w.heap.size ≤ gb331)); have n16_ := Aside0.mk ((by rw [hg]; exact (below_size (hb6 HB GE292 GE299 GE306 GE310 GE317 GE324)) : w.heap.size ≤ gb331)); have n17_ := Aside0.mk (nel hg BK292 : gb292 ≠ gb331); have n18_ := Aside0.mk (neg hg BK292 : gb331 ≠ gb292); have n19_ := Aside0.mk (nel hg BK299 : gb299 ≠ gb331); have n20_ := Aside0.mk (neg hg BK299 : gb331 ≠ gb299); have n21_ := Aside0.mk (nel hg BK306 : gb306 ≠ gb331); have n22_ := Aside0.mk (neg hg BK306 : gb331 ≠ gb306); have n23_ := Aside0.mk (nel hg BK310 : gb310 ≠ gb331); have n24_ := Aside0.mk (neg hg BK310 : gb331 ≠ gb310); have n25_ := Aside0.mk (nel hg BK317 : gb317 ≠ gb331); have n26_ := Aside0.mk (neg hg BK317 : gb331 ≠ gb317); have n27_ := Aside0.mk (nel hg BK324 : gb324 ≠ gb331); have n28_ := Aside0.mk (neg hg BK324 : gb331 ≠ gb324); clear HO291; clear HO297; clear HO304; clear HO309; clear HO315; clear HO322; clear HO329; clear BK292; clear BK299; clear BK306; clear BK310; clear BK317; clear BK324; clear HB; have HO291 := n0_; have HO297 := n1_; have HO304 := n2_; have HO309 := n3_; have HO315 := n4_; have HO322 := n5_; have HO329 := n6_; have BK292 := n7_; have BK299 := n8_; have BK306 := n9_; have BK310 := n10_; have BK317 := n11_; have BK324 := n12_; have HB := n13_; have BK331 := n14_; have GW331 := n15_; have GE331 := n16_; have NB292_331 := n17_; have NB331_292 := n18_; have NB299_331 := n19_; have NB331_299 := n20_; have NB306_331 := n21_; have NB331_306 := n22_; have NB310_331 := n23_; have NB331_310 := n24_; have NB317_331 := n25_; have NB331_317 := n26_; have NB324_331 := n27_; have NB331_324 := n28_; clear n0_ n1_ n2_ n3_ n4_ n5_ n6_ n7_ n8_ n9_ n10_ n11_ n12_ n13_ n14_ n15_ n16_ n17_ n18_ n19_ n20_ n21_ n22_ n23_ n24_ n25_ n26_ n27_ n28_; clear hb hbox hg; have hnb89 := NB331_292.out; have hnc89 := NB292_331.out; have hnb90 := NB331_299.out; have hnc90 := NB299_331.out; have hnb91 := NB331_306.out; have hnc91 := NB306_331.out; have hnb92 := NB331_310.out; have hnc92 := NB310_331.out; have hnb93 := NB331_317.out; have hnc93 := NB317_331.out; have hnb94 := NB331_324.out; have hnc94 := NB324_331.out; have hcz95_0 : w88.cell? ⟨gb331, 0, none⟩ = some (.int .i64 0) := (blk_cell BK331.out 0).trans rfl; have hcz95_1 : w88.cell? ⟨gb331, 1, none⟩ = some (.int .i64 0) := (blk_cell BK331.out 1).trans rfl; have hcz95_2 : w88.cell? ⟨gb331, 2, none⟩ = some (.slice none 0 0) := (blk_cell BK331.out 2).trans rfl; have hfz95_0 := blk_frozen BK331.out 0; have hfz95_1 := blk_frozen BK331.out 1; have hfz95_2 := blk_frozen BK331.out 2; obtain ⟨Ao96, co96, eo96⟩ := Kd.R_slice HO329.out; subst eo96; have hcz97_0 : w88.cell? ⟨gb299, 0, none⟩ = some (.int .i64 t293) := (blk_cell BK299.out 0).trans rfl; have hcz97_1 : w88.cell? ⟨gb299, 1, none⟩ = some (.int .i64 t294) := (blk_cell BK299.out 1).trans rfl; have hcz97_2 : w88.cell? ⟨gb299, 2, none⟩ = some (.slice Ao52 t295.length co52) := (blk_cell BK299.out 2).trans rfl; have hfz97_0 := blk_frozen BK299.out 0; have hfz97_1 := blk_frozen BK299.out 1; have hfz97_2 := blk_frozen BK299.out 2; have hcz98_0 : w88.cell? ⟨gb306, 0, none⟩ = some (.int .i64 t300) := (blk_cell BK306.out 0).trans rfl; have hcz98_1 : w88.cell? ⟨gb306, 1, none⟩ = some (.int .i64 t301) := (blk_cell BK306.out 1).trans rfl; have hcz98_2 : w88.cell? ⟨gb306, 2, none⟩ = some (.slice Ao59 t302.length co59) := (blk_cell BK306.out 2).trans rfl; have hfz98_0 := blk_frozen BK306.out 0; have hfz98_1 := blk_frozen BK306.out 1; have hfz98_2 := blk_frozen BK306.out 2; have hcz99_0 : w88.cell? ⟨gb317, 0, none⟩ = some (.int .i64 t311) := (blk_cell BK317.out 0).trans rfl; have hcz99_1 : w88.cell? ⟨gb317, 1, none⟩ = some (.int .i64 t312) := (blk_cell BK317.out 1).trans rfl; have hcz99_2 : w88.cell? ⟨gb317, 2, none⟩ = some (.slice Ao75 t313.length co75) := (blk_cell BK317.out 2).trans rfl; have hfz99_0 := blk_frozen BK317.out 0; have hfz99_1 := blk_frozen BK317.out 1; have hfz99_2 := blk_frozen BK317.out 2; have hcz100_0 : w88.cell? ⟨gb324, 0, none⟩ = some (.int .i64 t318) := (blk_cell BK324.out 0).trans rfl; have hcz100_1 : w88.cell? ⟨gb324, 1, none⟩ = some (.int .i64 t319) := (blk_cell BK324.out 1).trans rfl; have hcz100_2 : w88.cell? ⟨gb324, 2, none⟩ = some (.slice Ao85 t320.length co85) := (blk_cell BK324.out 2).trans rfl; have hfz100_0 := blk_frozen BK324.out 0; have hfz100_1 := blk_frozen BK324.out 1; have hfz100_2 := blk_frozen BK324.out 2; have p332 : 0 ≤ (0 : Int) := (by omega); have q332 : 0 < (t295.length : Int) := of_decide_eq_true (by first | (with_reducible assumption) | assumption); obtain ⟨ad332, e332, hx332_0⟩ := Kd.at_bool (Kd.R_reads' HO297.out).2.2 0 p332 q332; (try rw [← Nbq16.out] at hx332_0); (try rw [← Nbq19.out] at hx332_0); (try rw [← Nbq22.out] at hx332_0); (try rw [← Nbq25.out] at hx332_0); (try rw [← Nbq28.out] at hx332_0); (try rw [← Nbq31.out] at hx332_0); (try rw [← Nbq34.out] at hx332_0); (try rw [← Nbq37.out] at hx332_0); (try rw [← Nbq40.out] at hx332_0); cases e332; have qi332 : (0 < t295.length) = True := eq_true (by omega); (try rw [show ((0 : Int)).toNat = 0 from rfl] at hx332_0); (try rw [Addr.add_zero'] at hx332_0); have hn332_0 : ad332.block ≠ gb331 := Kd.own_blk (Kd.R_ne HO297.out BK331.out (by decide)); have hn332_1 : ad332.block ≠ gb331 := Kd.own_blk (Kd.R_ne HO297.out BK331.out (by decide)); have hn332_2 : ad332.block ≠ gb331 := Kd.own_blk (Kd.R_ne HO297.out BK331.out (by decide)); replace hx332_0 := (cell_far (p := ⟨gb331, 0, none⟩) (by first | (rw [add_block]; exact hn332_0) | (show (Addr.add _ _).block ≠ _; rw [add_block]; exact hn332_0) | exact hn332_0) (.int .i64 t325)).trans hx332_0; replace hx332_0 := (cell_far (p := ⟨gb331, 1, none⟩) (by first | (rw [add_block]; exact hn332_1) | (show (Addr.add _ _).block ≠ _; rw [add_block]; exact hn332_1) | exact hn332_1) (.int .i64 t326)).trans hx332_0; replace hx332_0 := (cell_far (p := ⟨gb331, 2, none⟩) (by first | (rw [add_block]; exact hn332_2) | (show (Addr.add _ _).block ≠ _; rw [add_block]; exact hn332_2) | exact hn332_2) (.slice Ao96 t327.length co96)).trans hx332_0; clear hn332_0; clear hn332_1; clear hn332_2; replace p332 := eq_true p332; replace q332 := eq_true q332; have p333 : 0 ≤ (1 : Int) := (by omega); have q333 : 1 < (t295.length : Int) := of_decide_eq_true (by first | (with_reducible assumption) | assumption); obtain ⟨ad333, e333, hx333_0⟩ := Kd.at_bool (Kd.R_reads' HO297.out).2.2 1 p333 q333; (try rw [← Nbq16.out] at hx333_0); (try rw [← Nbq19.out] at hx333_0); (try rw [← Nbq22.out] at hx333_0); (try rw [← Nbq25.out] at hx333_0); (try rw [← Nbq28.out] at hx333_0); (try rw [← Nbq31.out] at hx333_0); (try rw [← Nbq34.out] at hx333_0); (try rw [← Nbq37.out] at hx333_0); (try rw [← Nbq40.out] at hx333_0); obtain rfl : ad332 = ad333 := (by injection e333); (try simp only [show (1 : Int).toNat = 1 from rfl, Nat.reduceMul, Nat.reduceEqDiff, Go.Addr.add, ↓reduceIte] at hx333_0); have qi333 : (1 < t295.length) = True := eq_true (by omega); (try rw [show ((1 : Int)).toNat = 1 from rfl] at hx333_0); have hn333_0 : ad332.block ≠ gb331 := Kd.own_blk (Kd.R_ne HO297.out BK331.out (by decide)); have hn333_1 : ad332.block ≠ gb331 := Kd.own_blk (Kd.R_ne HO297.out BK331.out (by decide)); have hn333_2 : ad332.block ≠ gb331 := Kd.own_blk (Kd.R_ne HO297.out BK331.out (by decide)); replace hx333_0 := (cell_far (p := ⟨gb331, 0, none⟩) (by first | (rw [add_block]; exact hn333_0) | (show (Addr.add _ _).block ≠ _; rw [add_block]; exact hn333_0) | exact hn333_0) (.int .i64 t325)).trans hx333_0; replace hx333_0 := (cell_far (p := ⟨gb331, 1, none⟩) (by first | (rw [add_block]; exact hn333_1) | (show (Addr.add _ _).block ≠ _; rw [add_block]; exact hn333_1) | exact hn333_1) (.int .i64 t326)).trans hx333_0; replace hx333_0 := (cell_far (p := ⟨gb331, 2, none⟩) (by first | (rw [add_block]; exact hn333_2) | (show (Addr.add _ _).block ≠ _; rw [add_block]; exact hn333_2) | exact hn333_2) (.slice Ao96 t327.length co96)).trans hx333_0; clear hn333_0; clear hn333_1; clear hn333_2; replace p333 := eq_true p333; replace q333 := eq_true q333; have p334 : 0 ≤ (2 : Int) := (by omega); have q334 : 2 < (t295.length : Int) := of_decide_eq_true (by first | (with_reducible assumption) | assumption); obtain ⟨ad334, e334, hx334_0⟩ := Kd.at_bool (Kd.R_reads' HO297.out).2.2 2 p334 q334; (try rw [← Nbq16.out] at hx334_0); (try rw [← Nbq19.out] at hx334_0); (try rw [← Nbq22.out] at hx334_0); (try rw [← Nbq25.out] at hx334_0); (try rw [← Nbq28.out] at hx334_0); (try rw [← Nbq31.out] at hx334_0); (try rw [← Nbq34.out] at hx334_0); (try rw [← Nbq37.out] at hx334_0); (try rw [← Nbq40.out] at hx334_0); obtain rfl : ad332 = ad334 := (by injection e334); (try simp only [show (2 : Int).toNat = 2 from rfl, Nat.reduceMul, Nat.reduceEqDiff, Go.Addr.add, ↓reduceIte] at hx334_0); have qi334 : (2 < t295.length) = True := eq_true (by omega); (try rw [show ((2 : Int)).toNat = 2 from rfl] at hx334_0); have hn334_0 : ad332.block ≠ gb331 := Kd.own_blk (Kd.R_ne HO297.out BK331.out (by decide)); have hn334_1 : ad332.block ≠ gb331 := Kd.own_blk (Kd.R_ne HO297.out BK331.out (by decide)); have hn334_2 : ad332.block ≠ gb331 := Kd.own_blk (Kd.R_ne HO297.out BK331.out (by decide)); replace hx334_0 := (cell_far (p := ⟨gb331, 0, none⟩) (by first | (rw [add_block]; exact hn334_0) | (show (Addr.add _ _).block ≠ _; rw [add_block]; exact hn334_0) | exact hn334_0) (.int .i64 t325)).trans hx334_0; replace hx334_0 := (cell_far (p := ⟨gb331, 1, none⟩) (by first | (rw [add_block]; exact hn334_1) | (show (Addr.add _ _).block ≠ _; rw [add_block]; exact hn334_1) | exact hn334_1) (.int .i64 t326)).trans hx334_0; replace hx334_0 := (cell_far (p := ⟨gb331, 2, none⟩) (by first | (rw [add_block]; exact hn334_2) | (show (Addr.add _ _).block ≠ _; rw [add_block]; exact hn334_2) | exact hn334_2) (.slice Ao96 t327.length co96)).trans hx334_0; clear hn334_0; clear hn334_1; clear hn334_2; replace p334 := eq_true p334; replace q334 := eq_true q334; have p335 : 0 ≤ (0 : Int) := (by omega); have q335 : 0 < (t302.length : Int) := of_decide_eq_true (by first | (with_reducible assumption) | assumption); obtain ⟨ad335, e335, hx335_0⟩ := Kd.at_bool (Kd.R_reads' HO304.out).2.2 0 p335 q335; (try rw [← Nbq16.out] at hx335_0); (try rw [← Nbq19.out] at hx335_0); (try rw [← Nbq22.out] at hx335_0); (try rw [← Nbq25.out] at hx335_0); (try rw [← Nbq28.out] at hx335_0); (try rw [← Nbq31.out] at hx335_0); (try rw [← Nbq34.out] at hx335_0); (try rw [← Nbq37.out] at hx335_0); (try rw [← Nbq40.out] at hx335_0); cases e335; have qi335 : (0 < t302.length) = True := eq_true (by omega); (try rw [show ((0 : Int)).toNat = 0 from rfl] at hx335_0); (try rw [Addr.add_zero'] at hx335_0); have hn335_0 : ad335.block ≠ gb331 := Kd.own_blk (Kd.R_ne HO304.out BK331.out (by decide)); have hn335_1 : ad335.block ≠ gb331 := Kd.own_blk (Kd.R_ne HO304.out BK331.out (by decide)); have hn335_2 : ad335.block ≠ gb331 := Kd.own_blk (Kd.R_ne HO304.out BK331.out (by decide)); replace hx335_0 := (cell_far (p := ⟨gb331, 0, none⟩) (by first | (rw [add_block]; exact hn335_0) | (show (Addr.add _ _).block ≠ _; rw [add_block]; exact hn335_0) | exact hn335_0) (.int .i64 t325)).trans hx335_0; replace hx335_0 := (cell_far (p := ⟨gb331, 1, none⟩) (by first | (rw [add_block]; exact hn335_1) | (show (Addr.add _ _).block ≠ _; rw [add_block]; exact hn335_1) | exact hn335_1) (.int .i64 t326)).trans hx335_0; replace hx335_0 := (cell_far (p := ⟨gb331, 2, none⟩) (by first | (rw [add_block]; exact hn335_2) | (show (Addr.add _ _).block ≠ _; rw [add_block]; exact hn335_2) | exact hn335_2) (.slice Ao96 t327.length co96)).trans hx335_0; clear hn335_0; clear hn335_1; clear hn335_2; replace p335 := eq_true p335; replace q335 := eq_true q335; have p336 : 0 ≤ (1 : Int) := (by omega); have q336 : 1 < (t302.length : Int) := of_decide_eq_true (by first | (with_reducible assumption) | assumption); obtain ⟨ad336, e336, hx336_0⟩ := Kd.at_bool (Kd.R_reads' HO304.out).2.2 1 p336 q336; (try rw [← Nbq16.out] at hx336_0); (try rw [← Nbq19.out] at hx336_0); (try rw [← Nbq22.out] at hx336_0); (try rw [← Nbq25.out] at hx336_0); (try rw [← Nbq28.out] at hx336_0); (try rw [← Nbq31.out] at hx336_0); (try rw [← Nbq34.out] at hx336_0); (try rw [← Nbq37.out] at hx336_0); (try rw [← Nbq40.out] at hx336_0); obtain rfl : ad335 = ad336 := (by injection e336); (try simp only [show (1 : Int).toNat = 1 from rfl, Nat.reduceMul, Nat.reduceEqDiff, Go.Addr.add, ↓reduceIte] at hx336_0); have qi336 : (1 < t302.length) = True := eq_true (by omega); (try rw [show ((1 : Int)).toNat = 1 from rfl] at hx336_0); have hn336_0 : ad335.block ≠ gb331 := Kd.own_blk (Kd.R_ne HO304.out BK331.out (by decide)); have hn336_1 : ad335.block ≠ gb331 := Kd.own_blk (Kd.R_ne HO304.out BK331.out (by decide)); have hn336_2 : ad335.block ≠ gb331 := Kd.own_blk (Kd.R_ne HO304.out BK331.out (by decide)); replace hx336_0 := (cell_far (p := ⟨gb331, 0, none⟩) (by first | (rw [add_block]; exact hn336_0) | (show (Addr.add _ _).block ≠ _; rw [add_block]; exact hn336_0) | exact hn336_0) (.int .i64 t325)).trans hx336_0; replace hx336_0 := (cell_far (p := ⟨gb331, 1, none⟩) (by first | (rw [add_block]; exact hn336_1) | (show (Addr.add _ _).block ≠ _; rw [add_block]; exact hn336_1) | exact hn336_1) (.int .i64 t326)).trans hx336_0; replace hx336_0 := (cell_far (p := ⟨gb331, 2, none⟩) (by first | (rw [add_block]; exact hn336_2) | (show (Addr.add _ _).block ≠ _; rw [add_block]; exact hn336_2) | exact hn336_2) (.slice Ao96 t327.length co96)).trans hx336_0; clear hn336_0; clear hn336_1; clear hn336_2; replace p336 := eq_true p336; replace q336 := eq_true q336; have p337 : 0 ≤ (0 : Int) := (by omega); have q337 : 0 < (t313.length : Int) := of_decide_eq_true (by first | (with_reducible assumption) | assumption); obtain ⟨ad337, e337, hx337_0⟩ := Kd.at_bool (Kd.R_reads' HO315.out).2.2 0 p337 q337; (try rw [← Nbq16.out] at hx337_0); (try rw [← Nbq19.out] at hx337_0); (try rw [← Nbq22.out] at hx337_0); (try rw [← Nbq25.out] at hx337_0); (try rw [← Nbq28.out] at hx337_0); (try rw [← Nbq31.out] at hx337_0); (try rw [← Nbq34.out] at hx337_0); (try rw [← Nbq37.out] at hx337_0); (try rw [← Nbq40.out] at hx337_0); cases e337; have qi337 : (0 < t313.length) = True := eq_true (by omega); (try rw [show ((0 : Int)).toNat = 0 from rfl] at hx337_0); (try rw [Addr.add_zero'] at hx337_0); have hn337_0 : ad337.block ≠ gb331 := Kd.own_blk (Kd.R_ne HO315.out BK331.out (by decide)); have hn337_1 : ad337.block ≠ gb331 := Kd.own_blk (Kd.R_ne HO315.out BK331.out (by decide)); have hn337_2 : ad337.block ≠ gb331 := Kd.own_blk (Kd.R_ne HO315.out BK331.out (by decide)); replace hx337_0 := (cell_far (p := ⟨gb331, 0, none⟩) (by first | (rw [add_block]; exact hn337_0) | (show (Addr.add _ _).block ≠ _; rw [add_block]; exact hn337_0) | exact hn337_0) (.int .i64 t325)).trans hx337_0; replace hx337_0 := (cell_far (p := ⟨gb331, 1, none⟩) (by first | (rw [add_block]; exact hn337_1) | (show (Addr.add _ _).block ≠ _; rw [add_block]; exact hn337_1) | exact hn337_1) (.int .i64 t326)).trans hx337_0; replace hx337_0 := (cell_far (p := ⟨gb331, 2, none⟩) (by first | (rw [add_block]; exact hn337_2) | (show (Addr.add _ _).block ≠ _; rw [add_block]; exact hn337_2) | exact hn337_2) (.slice Ao96 t327.length co96)).trans hx337_0; clear hn337_0; clear hn337_1; clear hn337_2; replace p337 := eq_true p337; replace q337 := eq_true q337; have p338 : 0 ≤ (4 : Int) := (by omega); have q338 : 4 < (t313.length : Int) := of_decide_eq_true (by first | (with_reducible assumption) | assumption); obtain ⟨ad338, e338, hx338_0⟩ := Kd.at_bool (Kd.R_reads' HO315.out).2.2 4 p338 q338; (try rw [← Nbq16.out] at hx338_0); (try rw [← Nbq19.out] at hx338_0); (try rw [← Nbq22.out] at hx338_0); (try rw [← Nbq25.out] at hx338_0); (try rw [← Nbq28.out] at hx338_0); (try rw [← Nbq31.out] at hx338_0); (try rw [← Nbq34.out] at hx338_0); (try rw [← Nbq37.out] at hx338_0); (try rw [← Nbq40.out] at hx338_0); obtain rfl : ad337 = ad338 := (by injection e338); (try simp only [show (4 : Int).toNat = 4 from rfl, Nat.reduceMul, Nat.reduceEqDiff, Go.Addr.add, ↓reduceIte] at hx338_0); have qi338 : (4 < t313.length) = True := eq_true (by omega); (try rw [show ((4 : Int)).toNat = 4 from rfl] at hx338_0); have hn338_0 : ad337.block ≠ gb331 := Kd.own_blk (Kd.R_ne HO315.out BK331.out (by decide)); have hn338_1 : ad337.block ≠ gb331 := Kd.own_blk (Kd.R_ne HO315.out BK331.out (by decide)); have hn338_2 : ad337.block ≠ gb331 := Kd.own_blk (Kd.R_ne HO315.out BK331.out (by decide)); replace hx338_0 := (cell_far (p := ⟨gb331, 0, none⟩) (by first | (rw [add_block]; exact hn338_0) | (show (Addr.add _ _).block ≠ _; rw [add_block]; exact hn338_0) | exact hn338_0) (.int .i64 t325)).trans hx338_0; replace hx338_0 := (cell_far (p := ⟨gb331, 1, none⟩) (by first | (rw [add_block]; exact hn338_1) | (show (Addr.add _ _).block ≠ _; rw [add_block]; exact hn338_1) | exact hn338_1) (.int .i64 t326)).trans hx338_0; replace hx338_0 := (cell_far (p := ⟨gb331, 2, none⟩) (by first | (rw [add_block]; exact hn338_2) | (show (Addr.add _ _).block ≠ _; rw [add_block]; exact hn338_2) | exact hn338_2) (.slice Ao96 t327.length co96)).trans hx338_0; clear hn338_0; clear hn338_1; clear hn338_2; replace p338 := eq_true p338; replace q338 := eq_true q338; have p339 : 0 ≤ (0 : Int) := (by omega); have q339 : 0 < (t320.length : Int) := of_decide_eq_true (by first | (with_reducible assumption) | assumption); obtain ⟨ad339, e339, hx339_0⟩ := Kd.at_bool (Kd.R_reads' HO322.out).2.2 0 p339 q339; (try rw [← Nbq16.out] at hx339_0); (try rw [← Nbq19.out] at hx339_0); (try rw [← Nbq22.out] at hx339_0); (try rw [← Nbq25.out] at hx339_0); (try rw [← Nbq28.out] at hx339_0); (try rw [← Nbq31.out] at hx339_0); (try rw [← Nbq34.out] at hx339_0); (try rw [← Nbq37.out] at hx339_0); (try rw [← Nbq40.out] at hx339_0); cases e339; have qi339 : (0 < t320.length) = True := eq_true (by omega); (try rw [show ((0 : Int)).toNat = 0 from rfl] at hx339_0); (try rw [Addr.add_zero'] at hx339_0); have hn339_0 : ad339.block ≠ gb331 := Kd.own_blk (Kd.R_ne HO322.out BK331.out (by decide)); have hn339_1 : ad339.block ≠ gb331 := Kd.own_blk (Kd.R_ne HO322.out BK331.out (by decide)); have hn339_2 : ad339.block ≠ gb331 := Kd.own_blk (Kd.R_ne HO322.out BK331.out (by decide)); replace hx339_0 := (cell_far (p := ⟨gb331, 0, none⟩) (by first | (rw [add_block]; exact hn339_0) | (show (Addr.add _ _).block ≠ _; rw [add_block]; exact hn339_0) | exact hn339_0) (.int .i64 t325)).trans hx339_0; replace hx339_0 := (cell_far (p := ⟨gb331, 1, none⟩) (by first | (rw [add_block]; exact hn339_1) | (show (Addr.add _ _).block ≠ _; rw [add_block]; exact hn339_1) | exact hn339_1) (.int .i64 t326)).trans hx339_0; replace hx339_0 := (cell_far (p := ⟨gb331, 2, none⟩) (by first | (rw [add_block]; exact hn339_2) | (show (Addr.add _ _).block ≠ _; rw [add_block]; exact hn339_2) | exact hn339_2) (.slice Ao96 t327.length co96)).trans hx339_0; clear hn339_0; clear hn339_1; clear hn339_2; replace p339 := eq_true p339; replace q339 := eq_true q339; have p340 : 0 ≤ (1 : Int) := (by omega); have q340 : 1 < (t320.length : Int) := of_decide_eq_true (by first | (with_reducible assumption) | assumption); obtain ⟨ad340, e340, hx340_0⟩ := Kd.at_bool (Kd.R_reads' HO322.out).2.2 1 p340 q340; (try rw [← Nbq16.out] at hx340_0); (try rw [← Nbq19.out] at hx340_0); (try rw [← Nbq22.out] at hx340_0); (try rw [← Nbq25.out] at hx340_0); (try rw [← Nbq28.out] at hx340_0); (try rw [← Nbq31.out] at hx340_0); (try rw [← Nbq34.out] at hx340_0); (try rw [← Nbq37.out] at hx340_0); (try rw [← Nbq40.out] at hx340_0); obtain rfl : ad339 = ad340 := (by injection e340); (try simp only [show (1 : Int).toNat = 1 from rfl, Nat.reduceMul, Nat.reduceEqDiff, Go.Addr.add, ↓reduceIte] at hx340_0); have qi340 : (1 < t320.length) = True := eq_true (by omega); (try rw [show ((1 : Int)).toNat = 1 from rfl] at hx340_0); have hn340_0 : ad339.block ≠ gb331 := Kd.own_blk (Kd.R_ne HO322.out BK331.out (by decide)); have hn340_1 : ad339.block ≠ gb331 := Kd.own_blk (Kd.R_ne HO322.out BK331.out (by decide)); have hn340_2 : ad339.block ≠ gb331 := Kd.own_blk (Kd.R_ne HO322.out BK331.out (by decide)); replace hx340_0 := (cell_far (p := ⟨gb331, 0, none⟩) (by first | (rw [add_block]; exact hn340_0) | (show (Addr.add _ _).block ≠ _; rw [add_block]; exact hn340_0) | exact hn340_0) (.int .i64 t325)).trans hx340_0; replace hx340_0 := (cell_far (p := ⟨gb331, 1, none⟩) (by first | (rw [add_block]; exact hn340_1) | (show (Addr.add _ _).block ≠ _; rw [add_block]; exact hn340_1) | exact hn340_1) (.int .i64 t326)).trans hx340_0; replace hx340_0 := (cell_far (p := ⟨gb331, 2, none⟩) (by first | (rw [add_block]; exact hn340_2) | (show (Addr.add _ _).block ≠ _; rw [add_block]; exact hn340_2) | exact hn340_2) (.slice Ao96 t327.length co96)).trans hx340_0; clear hn340_0; clear hn340_1; clear hn340_2; replace p340 := eq_true p340; replace q340 := eq_true q340; have p341 : 0 ≤ (4 : Int) := (by omega); have q341 : 4 < (t320.length : Int) := of_decide_eq_true (by first | (with_reducible assumption) | assumption); obtain ⟨ad341, e341, hx341_0⟩ := Kd.at_bool (Kd.R_reads' HO322.out).2.2 4 p341 q341; (try rw [← Nbq16.out] at hx341_0); (try rw [← Nbq19.out] at hx341_0); (try rw [← Nbq22.out] at hx341_0); (try rw [← Nbq25.out] at hx341_0); (try rw [← Nbq28.out] at hx341_0); (try rw [← Nbq31.out] at hx341_0); (try rw [← Nbq34.out] at hx341_0); (try rw [← Nbq37.out] at hx341_0); (try rw [← Nbq40.out] at hx341_0); obtain rfl : ad339 = ad341 := (by injection e341); (try simp only [show (4 : Int).toNat = 4 from rfl, Nat.reduceMul, Nat.reduceEqDiff, Go.Addr.add, ↓reduceIte] at hx341_0); have qi341 : (4 < t320.length) = True := eq_true (by omega); (try rw [show ((4 : Int)).toNat = 4 from rfl] at hx341_0); have hn341_0 : ad339.block ≠ gb331 := Kd.own_blk (Kd.R_ne HO322.out BK331.out (by decide)); have hn341_1 : ad339.block ≠ gb331 := Kd.own_blk (Kd.R_ne HO322.out BK331.out (by decide)); have hn341_2 : ad339.block ≠ gb331 := Kd.own_blk (Kd.R_ne HO322.out BK331.out (by decide)); replace hx341_0 := (cell_far (p := ⟨gb331, 0, none⟩) (by first | (rw [add_block]; exact hn341_0) | (show (Addr.add _ _).block ≠ _; rw [add_block]; exact hn341_0) | exact hn341_0) (.int .i64 t325)).trans hx341_0; replace hx341_0 := (cell_far (p := ⟨gb331, 1, none⟩) (by first | (rw [add_block]; exact hn341_1) | (show (Addr.add _ _).block ≠ _; rw [add_block]; exact hn341_1) | exact hn341_1) (.int .i64 t326)).trans hx341_0; replace hx341_0 := (cell_far (p := ⟨gb331, 2, none⟩) (by first | (rw [add_block]; exact hn341_2) | (show (Addr.add _ _).block ≠ _; rw [add_block]; exact hn341_2) | exact hn341_2) (.slice Ao96 t327.length co96)).trans hx341_0; clear hn341_0; clear hn341_1; clear hn341_2; replace p341 := eq_true p341; replace q341 := eq_true q341))
                             go_ret
                             exact ⟨by first | rfl | (simp [errW_none, errW_some] <;> rfl) | (simp [*, errW_none, errW_some] <;> rfl), by repeat (first | (with_reducible first | exact HB.out | apply below_alloc | apply pw_below_drewN | apply below_drew1 | refine below_set ?_ GE292.out | refine below_set ?_ GE299.out | refine below_set ?_ GE306.out | refine below_set ?_ GE310.out | refine below_set ?_ GE317.out | refine below_set ?_ GE324.out | refine below_set ?_ GE331.out) | exact HB.out)⟩
                            ·rw [if_neg c42] at H
                             exact absurd H (by simp)
                           ·replace c41 := Bool.eq_false_iff.mpr c41
                            subst c41
                            have H1 : (none) = some r := by rw [if_neg (show ¬ (false = true) by decide)] at H; exact H
                            clear H
                            have H := H1
                            clear H1
                            exact absurd H (by simp)
                          ·rw [if_neg c39] at H
                           exact absurd H (by simp)
                        ·rw [if_neg c36] at H
                         exact absurd H (by simp)
                      ·rw [if_neg c33] at H
                       exact absurd H (by simp)
                     ·replace c32 := Bool.eq_false_iff.mpr c32
                      subst c32
                      have H1 : (none) = some r := by rw [if_neg (show ¬ (false = true) by decide)] at H; exact H
                      clear H
                      have H := H1
                      clear H1
                      exact absurd H (by simp)
                    ·rw [if_neg c30] at H
                     exact absurd H (by simp)
                  ·rw [if_neg c27] at H
                   exact absurd H (by simp)
                ·rw [if_neg c24] at H
                 exact absurd H (by simp)
               ·replace c23 := Bool.eq_false_iff.mpr c23
                subst c23
                have H1 : (none) = some r := by rw [if_neg (show ¬ (false = true) by decide)] at H; exact H
                clear H
                have H := H1
                clear H1
                exact absurd H (by simp)
              ·rw [if_neg c21] at H
               exact absurd H (by simp)
             ·replace c20 := Bool.eq_false_iff.mpr c20
              subst c20
              have H1 : (none) = some r := by rw [if_neg (show ¬ (false = true) by decide)] at H; exact H
              clear H
              have H := H1
              clear H1
              exact absurd H (by simp)
            ·rw [if_neg c18] at H
             exact absurd H (by simp)
           ·replace c17 := Bool.eq_false_iff.mpr c17
            subst c17
            have H1 : (none) = some r := by rw [if_neg (show ¬ (false = true) by decide)] at H; exact H
            clear H
            have H := H1
            clear H1
            exact absurd H (by simp)
          ·rw [if_neg c15] at H
           exact absurd H (by simp)
         ·rw [if_neg c14] at H
          exact absurd H (by simp)
        ·rw [if_neg c13] at H
         exact absurd H (by simp)
       ·rw [if_neg c12] at H
        exact absurd H (by simp)
      ·rw [if_neg c11] at H
       exact absurd H (by simp)
     ·rw [if_neg c10] at H
      exact absurd H (by simp)
    ·rw [if_neg c9] at H
     exact absurd H (by simp)
   ·rw [if_neg c8] at H
    exact absurd H (by simp)
  ·rw [if_neg c7] at H
   exact absurd H (by simp)
 ·rw [if_neg c6] at H
  exact absurd H (by simp)

/-! ### barscanref31_fits: function 55 -/
def barscanref31_fits.f (a0 : Int) (a1 : Int) : Option (Bool) := if a0 ≥ 1 then (if a0 ≤ 4096 then (if a1 ≥ 1 then (if a1 ≤ 4096 then (some (decide ((wrap64 (a0 * a1)) ≤ 4194304))) else (some false)) else (some false)) else (some false)) else (some false)
set_option maxHeartbeats 8000000 in
set_option maxRecDepth 100000 in
theorem barscanref31_fits.calls (a0 : Int) (a1 : Int) (r : Bool) (w : World) (h : barscanref31_fits.f a0 a1 = some r) :
  Calls Try.prog 55 #[.int .i64 a0, .int .i64 a1] w fun e w' => e = .returned (.bool r) ∧ Drawn0 w w' := by
 have H : (if a0 ≥ 1 then (if a0 ≤ 4096 then (if a1 ≥ 1 then (if a1 ≤ 4096 then (some (decide ((wrap64 (a0 * a1)) ≤ 4194304))) else (some false)) else (some false)) else (some false)) else (some false)) = some r := h
 clear h
 by_cases c3 : a0 ≥ 1
 ·rw [if_pos c3] at H
  have c3b0 : decide (1 ≤ a0) = true := decide_eq_true c3
  clear c3
  by_cases c4 : a0 ≤ 4096
  ·rw [if_pos c4] at H
   have c4b0 : decide (a0 ≤ 4096) = true := decide_eq_true c4
   clear c4
   by_cases c5 : a1 ≥ 1
   ·rw [if_pos c5] at H
    have c5b0 : decide (1 ≤ a1) = true := decide_eq_true c5
    clear c5
    by_cases c6 : a1 ≤ 4096
    ·rw [if_pos c6] at H
     have c6b0 : decide (a1 ≤ 4096) = true := decide_eq_true c6
     clear c6
     obtain rfl := Option.some.inj H
     go_enter Try.func55, Try.ntmps55
     go_wp2
     go_ret
     exact ⟨by first | rfl | (simp; done) | (simp [*]; done), by repeat (first | exact Drawn0.refl _ | apply Drawn0.step)⟩
    ·rw [if_neg c6] at H
     have c6b0 : decide (a1 ≤ 4096) = false := decide_eq_false c6
     clear c6
     obtain rfl := Option.some.inj H
     go_enter Try.func55, Try.ntmps55
     go_wp2
     go_ret
     exact ⟨by first | rfl | (simp; done) | (simp [*]; done), by repeat (first | exact Drawn0.refl _ | apply Drawn0.step)⟩
   ·rw [if_neg c5] at H
    have c5b0 : decide (1 ≤ a1) = false := decide_eq_false c5
    clear c5
    obtain rfl := Option.some.inj H
    go_enter Try.func55, Try.ntmps55
    go_wp2
    go_ret
    exact ⟨by first | rfl | (simp; done) | (simp [*]; done), by repeat (first | exact Drawn0.refl _ | apply Drawn0.step)⟩
  ·rw [if_neg c4] at H
   have c4b0 : decide (a0 ≤ 4096) = false := decide_eq_false c4
   clear c4
   obtain rfl := Option.some.inj H
   go_enter Try.func55, Try.ntmps55
   go_wp2
   go_ret
   exact ⟨by first | rfl | (simp; done) | (simp [*]; done), by repeat (first | exact Drawn0.refl _ | apply Drawn0.step)⟩
 ·rw [if_neg c3] at H
  have c3b0 : decide (1 ≤ a0) = false := decide_eq_false c3
  clear c3
  obtain rfl := Option.some.inj H
  go_enter Try.func55, Try.ntmps55
  go_wp2
  go_ret
  exact ⟨by first | rfl | (simp; done) | (simp [*]; done), by repeat (first | exact Drawn0.refl _ | apply Drawn0.step)⟩

/-! ### barscanref31_Valid: function 48 -/
def barscanref31_Valid.f (a0_0 : Int) (a0_1 : Int) (l0_2 : List Bool) : Option (Bool) := (barscanref31_fits.f a0_0 a0_1).bind fun t343 => (if t343 = true then (some ((l0_2.length : Int) == (wrap64 (a0_0 * a0_1)))) else (some false))
set_option maxHeartbeats 8000000 in
set_option maxRecDepth 100000 in
theorem barscanref31_Valid.calls (a0_0 : Int) (a0_1 : Int) (A0_2 : Option Addr) (c0_2 : Nat) (l0_2 : List Bool) (r : Bool) (w : World) (hr0_2 : Kd.C Kd.bool w A0_2 l0_2.length l0_2) (hc0_2 : l0_2.length ≤ c0_2) (h : barscanref31_Valid.f a0_0 a0_1 l0_2 = some r) :
  Calls Try.prog 48 #[.agg #[.int .i64 a0_0, .int .i64 a0_1, .slice A0_2 l0_2.length c0_2]] w fun e w' => e = .returned (.bool r) ∧ Below w.heap.size w w' := by
 have hu24 := Try.underlying24
 have HR0_2 := Aside0.mk hr0_2
 have HC0_2 := Aside0.mk hc0_2
 clear hr0_2 hc0_2
 have HB := Aside0.mk (Below.refl w.heap.size w)
 have H : ((barscanref31_fits.f a0_0 a0_1).bind fun t343 => (if t343 = true then (some ((l0_2.length : Int) == (wrap64 (a0_0 * a0_1)))) else (some false))) = some r := h
 clear h
 replace H := Option.bind_eq_some_iff.mp H
 obtain ⟨t343, A20, H⟩ := H
 replace H : (if t343 = true then (some ((l0_2.length : Int) == (wrap64 (a0_0 * a0_1)))) else (some false)) = some r := H
 have A2 := Aside0.mk A20
 clear A20
 by_cases c3 : t343 = true
 ·subst c3
  have H1 : (some ((l0_2.length : Int) == (wrap64 (a0_0 * a0_1)))) = some r := by rw [if_pos rfl] at H; exact H
  clear H
  have H := H1
  clear H1
  obtain rfl := Option.some.inj H
  go_enter Try.func48, Try.ntmps48
  go_wp2_with (first | ((with_reducible refine gate_dst (N := 1) rfl ?_); (try (refine gate_guard (by rfl) ?_; dsimp only)); refine box_event ?hg (N := 1) ?hd (cs := #[.int .i64 a0_0, .int .i64 a0_1, .slice A0_2 l0_2.length c0_2]) (t := 24) ?hr ?_; (case hd => rfl); (case hg => rfl); (case hr => first | (go_simp; done) | (go_simp; rfl)); intro gb342 hg w4 hbox hb; have n0_ := Aside0.mk (below_step (hb0 HB) hb); have n1_ := Aside0.mk (hbox); have n2_ := Aside0.mk ((by rw [hg]; exact (below_size (hb0 HB)) : w.heap.size ≤ gb342)); have n3_ := Aside0.mk ((by rw [hg]; exact (below_size (hb0 HB)) : w.heap.size ≤ gb342)); clear HB; have HB := n0_; have BK342 := n1_; have GW342 := n2_; have GE342 := n3_; clear n0_ n1_ n2_ n3_; clear hb hbox hg; have hcz5_0 : w4.cell? ⟨gb342, 0, none⟩ = some (.int .i64 a0_0) := (blk_cell BK342.out 0).trans rfl; have hcz5_1 : w4.cell? ⟨gb342, 1, none⟩ = some (.int .i64 a0_1) := (blk_cell BK342.out 1).trans rfl; have hcz5_2 : w4.cell? ⟨gb342, 2, none⟩ = some (.slice A0_2 l0_2.length c0_2) := (blk_cell BK342.out 2).trans rfl; have hfz5_0 := blk_frozen BK342.out 0; have hfz5_1 := blk_frozen BK342.out 1; have hfz5_2 := blk_frozen BK342.out 2) | ((with_reducible refine gate_callee (f := 55) rfl ?_); refine goesL_ (some 7) rfl rfl Try.func55 (by kernel_rfl) rfl #[.int .i64 a0_0, .int .i64 a0_1] rfl mapx ?_; (with_reducible refine (barscanref31_fits.calls a0_0 a0_1 true _ A2.out).mono ?_); rintro e w' ⟨rfl, ⟨nd, rfl⟩⟩; refine ⟨_, rfl, ?_⟩))
  go_ret
  exact ⟨by first | rfl | (simp [errW_none, errW_some] <;> rfl) | (simp [*, errW_none, errW_some] <;> rfl), by repeat (first | (with_reducible first | exact HB.out | apply below_alloc | apply pw_below_drewN | apply below_drew1 | refine below_set ?_ GE342.out) | exact HB.out)⟩
 ·replace c3 := Bool.eq_false_iff.mpr c3
  subst c3
  have H1 : (some false) = some r := by rw [if_neg (show ¬ (false = true) by decide)] at H; exact H
  clear H
  have H := H1
  clear H1
  obtain rfl := Option.some.inj H
  go_enter Try.func48, Try.ntmps48
  go_wp2_with (first | ((with_reducible refine gate_dst (N := 1) rfl ?_); (try (refine gate_guard (by rfl) ?_; dsimp only)); refine box_event ?hg (N := 1) ?hd (cs := #[.int .i64 a0_0, .int .i64 a0_1, .slice A0_2 l0_2.length c0_2]) (t := 24) ?hr ?_; (case hd => rfl); (case hg => rfl); (case hr => first | (go_simp; done) | (go_simp; rfl)); intro gb342 hg w6 hbox hb; have n0_ := Aside0.mk (below_step (hb0 HB) hb); have n1_ := Aside0.mk (hbox); have n2_ := Aside0.mk ((by rw [hg]; exact (below_size (hb0 HB)) : w.heap.size ≤ gb342)); have n3_ := Aside0.mk ((by rw [hg]; exact (below_size (hb0 HB)) : w.heap.size ≤ gb342)); clear HB; have HB := n0_; have BK342 := n1_; have GW342 := n2_; have GE342 := n3_; clear n0_ n1_ n2_ n3_; clear hb hbox hg; have hcz7_0 : w6.cell? ⟨gb342, 0, none⟩ = some (.int .i64 a0_0) := (blk_cell BK342.out 0).trans rfl; have hcz7_1 : w6.cell? ⟨gb342, 1, none⟩ = some (.int .i64 a0_1) := (blk_cell BK342.out 1).trans rfl; have hcz7_2 : w6.cell? ⟨gb342, 2, none⟩ = some (.slice A0_2 l0_2.length c0_2) := (blk_cell BK342.out 2).trans rfl; have hfz7_0 := blk_frozen BK342.out 0; have hfz7_1 := blk_frozen BK342.out 1; have hfz7_2 := blk_frozen BK342.out 2) | ((with_reducible refine gate_callee (f := 55) rfl ?_); refine goesL_ (some 7) rfl rfl Try.func55 (by kernel_rfl) rfl #[.int .i64 a0_0, .int .i64 a0_1] rfl mapx ?_; (with_reducible refine (barscanref31_fits.calls a0_0 a0_1 false _ A2.out).mono ?_); rintro e w' ⟨rfl, ⟨nd, rfl⟩⟩; refine ⟨_, rfl, ?_⟩))
  go_ret
  exact ⟨by first | rfl | (simp [errW_none, errW_some] <;> rfl) | (simp [*, errW_none, errW_some] <;> rfl), by repeat (first | (with_reducible first | exact HB.out | apply below_alloc | apply pw_below_drewN | apply below_drew1 | refine below_set ?_ GE342.out) | exact HB.out)⟩

end Go.Proofs.Ytkakiblnhgpdnaa.PR
