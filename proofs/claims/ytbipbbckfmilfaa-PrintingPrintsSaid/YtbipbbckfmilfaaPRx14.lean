-- Written by this session's own program (myprint.py).
import Derived.Test.YtbipbbckfmilfaaPRx0
import Derived.Test.YtbipbbckfmilfaaPRx10
import Derived.Test.YtbipbbckfmilfaaPRx11
import Derived.Test.YtbipbbckfmilfaaPRx12
import Derived.Test.YtbipbbckfmilfaaPRx13
namespace Go.Proofs.Ytbipbbckfmilfaa.PR
open Go.RowKit Go.Proofs.YtbipbbckfmilfaaW.PrintWords Go.Proofs.YtbipbbckfmilfaaW.PrintLast Go.Proofs.YtbipbbckfmilfaaW.PrintMore Go.Proofs.Ytbipbbckfmilfaa.XWords Go.Proofs.Ytbipbbckfmilfaa.XShort Go.Proofs.Ytbipbbckfmilfaa.XFn
attribute [local go_sem] max2_int min2_int max_two min_two max_three min_three max_four min_four   -- for this text's walks alone
set_option linter.unusedVariables false
set_option linter.unusedSimpArgs false

/-! ### barscanref43_Print: function 29 -/
def barscanref43_Print.l0 : Nat → List Int → Int → Int → Int → List Int → Option (Int × Int × List Int × Int)
 | 0, _, _, _, _, _ => none
 | k + 1, x12, x15, x350000, x350001, x350002 => if x15 < (x12.length : Int) then (if 0 ≤ x15 then (if 0 ≤ (rd x12 x15) then (if (rd x12 x15) < (x350002.length : Int) then (barscanref43_Print.l0 k x12 (wrap64 (x15 + 1)) x350000 x350001 (x350002.set ((rd x12 x15) : Int).toNat ((255 - (rd x350002 (rd x12 x15))) % 256))) else (none)) else (none)) else (none)) else (some (x350000, x350001, x350002, 0))
def barscanref43_Print.f (k : Nat) (a0_0 : Int) (a0_1 : Int) (l0_2 : List Bool) (a1_0 : Int) (a1_1 : Int) (a1_2 : Int) (a1_3 : Int) : Option (Int × Int × List Int × Int) := (barscanref31_Turn.f k a0_0 a0_1 l0_2 a1_0).bind fun bt318 => (if bt318.2.2.2 = 0 then ((barscanref31_Gray.f k bt318.1 bt318.2.1 bt318.2.2.1).bind fun bt325 => ((barscanref43_Blur.f k bt325.1 bt325.2.1 bt325.2.2.1 a1_1).bind fun bt332 => (if bt332.2.2.2 = 0 then ((barscanref43_Places.f k bt318.1 bt318.2.1 a1_2 a1_3).bind fun bt339 => (if bt339.2 = 0 then ((some (([] : List Int) : List Int)).bind fun y343 => (if y343.length + bt332.2.2.1.length < 140737488355328 then (barscanref43_Print.l0 k bt339.1 0 bt332.1 bt332.2.1 (y343 ++ bt332.2.2.1)) else (none))) else (some (0, 0, ([] : List Int), bt339.2)))) else (some (0, 0, ([] : List Int), bt332.2.2.2))))) else (some (0, 0, ([] : List Int), bt318.2.2.2)))
theorem barscanref43_Print.mono_l : ∀ k, (∀ y0 y1 y2 y3 y4, LeO (barscanref43_Print.l0 k y0 y1 y2 y3 y4) (barscanref43_Print.l0 (k + 1) y0 y1 y2 y3 y4))
 | 0 => fun _ _ _ _ _ r h => by simp [barscanref43_Print.l0] at h
 | k + 1 => by
  have ih0 := barscanref43_Print.mono_l k
  ·intro y0 y1 y2 y3 y4
   unfold barscanref43_Print.l0
   repeat' first
   | (with_reducible exact ih0 _ _ _ _ _)
   | (with_reducible exact barscanref31_Gray.mono _ _ _ _)
   | (with_reducible exact barscanref31_Turn.mono _ _ _ _ _)
   | (with_reducible exact barscanref43_Blur.mono _ _ _ _ _)
   | (with_reducible exact barscanref43_Places.mono _ _ _ _ _)
   | (with_reducible exact LeO.refl _)
   | (with_reducible exact LeO.none _)
   | (with_reducible refine LeO.ite ?_ ?_)
   | (with_reducible refine LeO.bind ?_ (fun _ => ?_))
   | exact ih0 _ _ _ _ _
   | exact barscanref31_Gray.mono _ _ _ _
   | exact barscanref31_Turn.mono _ _ _ _ _
   | exact barscanref43_Blur.mono _ _ _ _ _
   | exact barscanref43_Places.mono _ _ _ _ _
   | exact LeO.none _
   | refine LeO.ite ?_ ?_
   | refine LeO.bind ?_ (fun _ => ?_)
theorem barscanref43_Print.mono : ∀ a0 a1 a2 a3 a4 a5 a6 k, LeO (barscanref43_Print.f k a0 a1 a2 a3 a4 a5 a6) (barscanref43_Print.f (k + 1) a0 a1 a2 a3 a4 a5 a6) := by
 intro a0 a1 a2 a3 a4 a5 a6 k
 have ih0 := barscanref43_Print.mono_l k
 unfold barscanref43_Print.f
 repeat' first
   | (with_reducible exact ih0 _ _ _ _ _)
   | (with_reducible exact barscanref31_Gray.mono _ _ _ _)
   | (with_reducible exact barscanref31_Turn.mono _ _ _ _ _)
   | (with_reducible exact barscanref43_Blur.mono _ _ _ _ _)
   | (with_reducible exact barscanref43_Places.mono _ _ _ _ _)
   | (with_reducible exact LeO.refl _)
   | (with_reducible exact LeO.none _)
   | (with_reducible refine LeO.ite ?_ ?_)
   | (with_reducible refine LeO.bind ?_ (fun _ => ?_))
   | exact ih0 _ _ _ _ _
   | exact barscanref31_Gray.mono _ _ _ _
   | exact barscanref31_Turn.mono _ _ _ _ _
   | exact barscanref43_Blur.mono _ _ _ _ _
   | exact barscanref43_Places.mono _ _ _ _ _
   | exact LeO.none _
   | refine LeO.ite ?_ ?_
   | refine LeO.bind ?_ (fun _ => ?_)
def barscanref43_Print.T11 : Bool × List (List Nat × List Nat) := (true, [([], []), ([0], [0]), ([], []), ([2], [2]), ([], []), ([], []), ([5], [5]), ([4, 6], [4, 6]), ([1, 3, 7], [1, 3, 7]), ([], []), ([9, 8, 7, 0, 1, 2, 3, 4, 5, 6, 7, 8, 9], [8, 9])])
def barscanref43_Print.B11 : List Nat := [0, 1, 0, 4, 0, 0, 32, 112, 255, 0, 1023]
theorem barscanref43_Print.tab11 : rtab .any (opsOf Try.f29 11) = barscanref43_Print.T11 := by kernel_rfl
theorem barscanref43_Print.bits11 : waitsOk barscanref43_Print.T11.2 barscanref43_Print.B11 = true := by kernel_rfl
def barscanref43_Print.T15 : Bool × List (List Nat × List Nat) := (true, [([], []), ([0], [0]), ([], []), ([], []), ([2, 3], [2, 3]), ([4], [4]), ([], []), ([6], [6]), ([], []), ([], []), ([8, 9], [8, 9]), ([10], [10]), ([7, 11], [7, 11]), ([12], [12]), ([13], [13]), ([1, 5, 0, 1, 2, 3, 4, 5, 6, 7, 8, 9, 10, 11, 12, 13, 14], [1, 5]), ([15, 14, 0, 1, 2, 3, 4, 5, 6, 7, 8, 9, 10, 11, 12, 13, 14], [14, 15])])
def barscanref43_Print.B15 : List Nat := [0, 1, 0, 0, 12, 28, 0, 64, 0, 0, 768, 1792, 4032, 8128, 16320, 32767, 65535]
theorem barscanref43_Print.tab15 : rtab .any (opsOf Try.f29 15) = barscanref43_Print.T15 := by kernel_rfl
theorem barscanref43_Print.bits15 : waitsOk barscanref43_Print.T15.2 barscanref43_Print.B15 = true := by kernel_rfl
set_option maxHeartbeats 8000000 in
set_option maxRecDepth 100000 in
theorem barscanref43_Print.calls (k : Nat) (a0_0 : Int) (a0_1 : Int) (A0_2 : Option Addr) (c0_2 : Nat) (l0_2 : List Bool) (a1_0 : Int) (a1_1 : Int) (a1_2 : Int) (a1_3 : Int) (r1 : Int) (r2 : Int) (r3 : List Int) (r4 : Int) (w : World) (hr0_2 : Kd.C Kd.bool w A0_2 l0_2.length l0_2) (hc0_2 : l0_2.length ≤ c0_2) (h : barscanref43_Print.f k a0_0 a0_1 l0_2 a1_0 a1_1 a1_2 a1_3 = some (r1, r2, r3, r4)) :
  Calls Try.prog 29 #[.agg #[.int .i64 a0_0, .int .i64 a0_1, .slice A0_2 l0_2.length c0_2], .agg #[.int .i64 a1_0, .int .i64 a1_1, .int .i64 a1_2, .int .u32 a1_3]] w fun e w' => ∃ v2_ : Value, e = .returned (.tuple #[.agg #[.int .i64 r1, .int .i64 r2, v2_], .int .i64 r4]) ∧ Kd.R (Kd.int .u8) 5 w' w.heap.size (fun _ => True) v2_ r3 ∧ Below w.heap.size w w' := by
 have hu33 := Try.underlying33
 have hu38 := Try.underlying38
 have hu24 := Try.underlying24
 have HR0_2 := Aside0.mk hr0_2
 have HC0_2 := Aside0.mk hc0_2
 clear hr0_2 hc0_2
 have HB := Aside0.mk (Below.refl w.heap.size w)
 have H : ((barscanref31_Turn.f k a0_0 a0_1 l0_2 a1_0).bind fun bt318 => (if bt318.2.2.2 = 0 then ((barscanref31_Gray.f k bt318.1 bt318.2.1 bt318.2.2.1).bind fun bt325 => ((barscanref43_Blur.f k bt325.1 bt325.2.1 bt325.2.2.1 a1_1).bind fun bt332 => (if bt332.2.2.2 = 0 then ((barscanref43_Places.f k bt318.1 bt318.2.1 a1_2 a1_3).bind fun bt339 => (if bt339.2 = 0 then ((some (([] : List Int) : List Int)).bind fun y343 => (if y343.length + bt332.2.2.1.length < 140737488355328 then (barscanref43_Print.l0 k bt339.1 0 bt332.1 bt332.2.1 (y343 ++ bt332.2.2.1)) else (none))) else (some (0, 0, ([] : List Int), bt339.2)))) else (some (0, 0, ([] : List Int), bt332.2.2.2))))) else (some (0, 0, ([] : List Int), bt318.2.2.2)))) = some (r1, r2, r3, r4) := h
 clear h
 replace H := Option.bind_eq_some_iff.mp H
 obtain ⟨⟨t318, t319, t320, t323⟩, A30, H⟩ := H
 replace H : (if t323 = 0 then ((barscanref31_Gray.f k t318 t319 t320).bind fun bt325 => ((barscanref43_Blur.f k bt325.1 bt325.2.1 bt325.2.2.1 a1_1).bind fun bt332 => (if bt332.2.2.2 = 0 then ((barscanref43_Places.f k t318 t319 a1_2 a1_3).bind fun bt339 => (if bt339.2 = 0 then ((some (([] : List Int) : List Int)).bind fun y343 => (if y343.length + bt332.2.2.1.length < 140737488355328 then (barscanref43_Print.l0 k bt339.1 0 bt332.1 bt332.2.1 (y343 ++ bt332.2.2.1)) else (none))) else (some (0, 0, ([] : List Int), bt339.2)))) else (some (0, 0, ([] : List Int), bt332.2.2.2))))) else (some (0, 0, ([] : List Int), t323))) = some (r1, r2, r3, r4) := H
 have A3 := Aside0.mk A30
 clear A30
 by_cases c4 : t323 = 0
 ·rw [if_pos c4] at H
  have c4b0 : (t323 == 0) = true := beq_iff_eq.mpr c4
  have c4b1 : (t323 != 0) = false := bne_eq_false_iff_eq.mpr c4
  clear c4
  replace H := Option.bind_eq_some_iff.mp H
  obtain ⟨⟨t325, t326, t327, t330⟩, A50, H⟩ := H
  replace H : ((barscanref43_Blur.f k t325 t326 t327 a1_1).bind fun bt332 => (if bt332.2.2.2 = 0 then ((barscanref43_Places.f k t318 t319 a1_2 a1_3).bind fun bt339 => (if bt339.2 = 0 then ((some (([] : List Int) : List Int)).bind fun y343 => (if y343.length + bt332.2.2.1.length < 140737488355328 then (barscanref43_Print.l0 k bt339.1 0 bt332.1 bt332.2.1 (y343 ++ bt332.2.2.1)) else (none))) else (some (0, 0, ([] : List Int), bt339.2)))) else (some (0, 0, ([] : List Int), bt332.2.2.2)))) = some (r1, r2, r3, r4) := H
  have A5 := Aside0.mk A50
  clear A50
  replace H := Option.bind_eq_some_iff.mp H
  obtain ⟨⟨t332, t333, t334, t337⟩, A60, H⟩ := H
  replace H : (if t337 = 0 then ((barscanref43_Places.f k t318 t319 a1_2 a1_3).bind fun bt339 => (if bt339.2 = 0 then ((some (([] : List Int) : List Int)).bind fun y343 => (if y343.length + t334.length < 140737488355328 then (barscanref43_Print.l0 k bt339.1 0 t332 t333 (y343 ++ t334)) else (none))) else (some (0, 0, ([] : List Int), bt339.2)))) else (some (0, 0, ([] : List Int), t337))) = some (r1, r2, r3, r4) := H
  have A6 := Aside0.mk A60
  clear A60
  by_cases c7 : t337 = 0
  ·rw [if_pos c7] at H
   have c7b0 : (t337 == 0) = true := beq_iff_eq.mpr c7
   have c7b1 : (t337 != 0) = false := bne_eq_false_iff_eq.mpr c7
   clear c7
   replace H := Option.bind_eq_some_iff.mp H
   obtain ⟨⟨t339, t340⟩, A80, H⟩ := H
   replace H : (if t340 = 0 then ((some (([] : List Int) : List Int)).bind fun y343 => (if y343.length + t334.length < 140737488355328 then (barscanref43_Print.l0 k t339 0 t332 t333 (y343 ++ t334)) else (none))) else (some (0, 0, ([] : List Int), t340))) = some (r1, r2, r3, r4) := H
   have A8 := Aside0.mk A80
   clear A80
   by_cases c9 : t340 = 0
   ·rw [if_pos c9] at H
    have c9b0 : (t340 == 0) = true := beq_iff_eq.mpr c9
    have c9b1 : (t340 != 0) = false := bne_eq_false_iff_eq.mpr c9
    clear c9
    obtain ⟨y343, hy343⟩ : ∃ y_ : List Int, y_ = (([] : List Int)) := ⟨_, rfl⟩
    replace H : (if y343.length + t334.length < 140737488355328 then (barscanref43_Print.l0 k t339 0 t332 t333 (y343 ++ t334)) else (none)) = some (r1, r2, r3, r4) := by first | (rw [hy343]; with_reducible exact H) | (have H2_ := (Option.bind_some _ _).symm.trans H; rw [hy343]; with_reducible exact H2_) | (have H2_ := (Option.bind_some _ _).symm.trans H; with_reducible exact H2_) | with_reducible exact H | (rw [hy343]; exact H) | exact H
    have Ny343 := Aside0.mk hy343
    clear hy343
    by_cases c10 : y343.length + t334.length < 140737488355328
    ·rw [if_pos c10] at H
     have LMc10 := Aside0.mk c10
     clear c10
     obtain ⟨y346, hy346⟩ : ∃ y_ : List Int, y_ = (y343 ++ t334) := ⟨_, rfl⟩
     replace H : (barscanref43_Print.l0 k t339 0 t332 t333 y346) = some (r1, r2, r3, r4) := by first | (rw [hy346]; with_reducible exact H) | (have H2_ := (Option.bind_some _ _).symm.trans H; rw [hy346]; with_reducible exact H2_) | (have H2_ := (Option.bind_some _ _).symm.trans H; with_reducible exact H2_) | with_reducible exact H | (rw [hy346]; exact H) | exact H
     have Ny346 := Aside0.mk hy346
     clear hy346
     have H' := Aside0.mk H
     clear H
     go_enter Try.func29, Try.ntmps29
     try go_wp2_with (first | ((with_reducible refine gate_dst (N := 2) rfl ?_); refine box_event ?hg (N := 2) ?hd (cs := #[.int .i64 a0_0, .int .i64 a0_1, .slice A0_2 l0_2.length c0_2]) (t := 33) ?hr ?_; (case hd => rfl); (case hg => rfl); (case hr => first | (go_simp; done) | (go_simp; rfl)); intro gb315 hg w11 hbox hb; have n0_ := Aside0.mk (below_step (hb0 HB) hb); have n1_ := Aside0.mk (hbox); have n2_ := Aside0.mk ((by rw [hg]; exact (below_size (hb0 HB)) : w.heap.size ≤ gb315)); have n3_ := Aside0.mk ((by rw [hg]; exact (below_size (hb0 HB)) : w.heap.size ≤ gb315)); clear HB; have HB := n0_; have BK315 := n1_; have GW315 := n2_; have GE315 := n3_; clear n0_ n1_ n2_ n3_; clear hb hbox hg) | ((with_reducible refine gate_dst (N := 3) rfl ?_); refine box_event ?hg (N := 3) ?hd (cs := #[.int .i64 a1_0, .int .i64 a1_1, .int .i64 a1_2, .int .u32 a1_3]) (t := 38) ?hr ?_; (case hd => rfl); (case hg => rfl); (case hr => first | (go_simp; done) | (go_simp; rfl)); intro gb316 hg w12 hbox hb; have n0_ := Aside0.mk (blk_below (bkx BK315) hb); have n1_ := Aside0.mk (below_step (hb1 HB GE315) hb); have n2_ := Aside0.mk (hbox); have n3_ := Aside0.mk ((by rw [hg]; exact (below_size (hb1 HB GE315)) : w.heap.size ≤ gb316)); have n4_ := Aside0.mk ((by rw [hg]; exact (below_size (hb1 HB GE315)) : w.heap.size ≤ gb316)); have n5_ := Aside0.mk (nel hg BK315 : gb315 ≠ gb316); have n6_ := Aside0.mk (neg hg BK315 : gb316 ≠ gb315); clear BK315; clear HB; have BK315 := n0_; have HB := n1_; have BK316 := n2_; have GW316 := n3_; have GE316 := n4_; have NB315_316 := n5_; have NB316_315 := n6_; clear n0_ n1_ n2_ n3_ n4_ n5_ n6_; clear hb hbox hg) | ((with_reducible refine gate_dst (N := 4) rfl ?_); refine box_event ?hg (N := 4) ?hd (cs := #[.int .i64 0, .int .i64 0, .slice none 0 0]) (t := 24) ?hr ?_; (case hd => rfl); (case hg => rfl); (case hr => first | (go_simp; done) | (go_simp; rfl)); intro gb317 hg w13 hbox hb; have n0_ := Aside0.mk (blk_below (bkx BK315) hb); have n1_ := Aside0.mk (blk_below (bkx BK316) hb); have n2_ := Aside0.mk (below_step (hb2 HB GE315 GE316) hb); have n3_ := Aside0.mk (hbox); have n4_ := Aside0.mk ((by rw [hg]; exact (below_size (hb2 HB GE315 GE316)) : w.heap.size ≤ gb317)); have n5_ := Aside0.mk ((by rw [hg]; exact (below_size (hb2 HB GE315 GE316)) : w.heap.size ≤ gb317)); have n6_ := Aside0.mk (nel hg BK315 : gb315 ≠ gb317); have n7_ := Aside0.mk (neg hg BK315 : gb317 ≠ gb315); have n8_ := Aside0.mk (nel hg BK316 : gb316 ≠ gb317); have n9_ := Aside0.mk (neg hg BK316 : gb317 ≠ gb316); clear BK315; clear BK316; clear HB; have BK315 := n0_; have BK316 := n1_; have HB := n2_; have BK317 := n3_; have GW317 := n4_; have GE317 := n5_; have NB315_317 := n6_; have NB317_315 := n7_; have NB316_317 := n8_; have NB317_316 := n9_; clear n0_ n1_ n2_ n3_ n4_ n5_ n6_ n7_ n8_ n9_; clear hb hbox hg; have hnb14 := NB315_316.out; have hnc14 := NB316_315.out; have hnb15 := NB315_317.out; have hnc15 := NB317_315.out; have hcz16_0 : w13.cell? ⟨gb315, 0, none⟩ = some (.int .i64 a0_0) := (blk_cell BK315.out 0).trans rfl; have hcz16_1 : w13.cell? ⟨gb315, 1, none⟩ = some (.int .i64 a0_1) := (blk_cell BK315.out 1).trans rfl; have hcz16_2 : w13.cell? ⟨gb315, 2, none⟩ = some (.slice A0_2 l0_2.length c0_2) := (blk_cell BK315.out 2).trans rfl; have hfz16_0 := blk_frozen BK315.out 0; have hfz16_1 := blk_frozen BK315.out 1; have hfz16_2 := blk_frozen BK315.out 2; have hnb17 := NB316_317.out; have hnc17 := NB317_316.out; have hcz18_0 : w13.cell? ⟨gb316, 0, none⟩ = some (.int .i64 a1_0) := (blk_cell BK316.out 0).trans rfl; have hcz18_1 : w13.cell? ⟨gb316, 1, none⟩ = some (.int .i64 a1_1) := (blk_cell BK316.out 1).trans rfl; have hcz18_2 : w13.cell? ⟨gb316, 2, none⟩ = some (.int .i64 a1_2) := (blk_cell BK316.out 2).trans rfl; have hcz18_3 : w13.cell? ⟨gb316, 3, none⟩ = some (.int .u32 a1_3) := (blk_cell BK316.out 3).trans rfl; have hfz18_0 := blk_frozen BK316.out 0; have hfz18_1 := blk_frozen BK316.out 1; have hfz18_2 := blk_frozen BK316.out 2; have hfz18_3 := blk_frozen BK316.out 3) | ((with_reducible refine gate_callee (f := 49) rfl ?_); refine goesL_ (some 20) rfl rfl Try.func49 (by kernel_rfl) rfl #[.agg #[.int .i64 a0_0, .int .i64 a0_1, .slice A0_2 l0_2.length c0_2], .int .i64 a1_0] rfl mapx ?_; (with_reducible refine (barscanref31_Turn.calls k a0_0 a0_1 _ _ l0_2 a1_0 t318 t319 t320 t323 _ ?side1 ?side2 A3.out).mono ?_); (case side1 => repeat (first | exact (Kd.C_below HR0_2.out HB.out) | (with_reducible refine Kd.C_alloc ?_ _) | (with_reducible refine Kd.C_drewN ?_ _) | (with_reducible refine Kd.C_drew ?_))); (case side2 => exact HC0_2.out); rintro e w19 ⟨v321, rfl, ho0, hb⟩; refine ⟨_, rfl, ?_⟩; have n0_ := Aside0.mk (Kd.R_lower ho0 (below_size (hb3 HB GE315 GE316 GE317))); have n1_ := Aside0.mk (blk_below (bkx BK315) hb); have n2_ := Aside0.mk (blk_below (bkx BK316) hb); have n3_ := Aside0.mk (blk_below (bkx BK317) hb); have n4_ := Aside0.mk (below_step (hb3 HB GE315 GE316 GE317) hb); clear BK315; clear BK316; clear BK317; clear HB; have HO322 := n0_; have BK315 := n1_; have BK316 := n2_; have BK317 := n3_; have HB := n4_; clear n0_ n1_ n2_ n3_ n4_; (try clear hb); (try clear hb2); (try clear hk); (try clear hi); (try clear ho0)) | ((with_reducible refine gate_dst (N := 6) rfl ?_); refine box_event ?hg (N := 6) ?hd (cs := #[.int .i64 0, .int .i64 0, .slice none 0 0]) (t := 33) ?hr ?_; (case hd => rfl); (case hg => rfl); (case hr => first | (go_simp; done) | (go_simp; rfl)); intro gb324 hg w20 hbox hb; have n0_ := Aside0.mk (Kd.R_below (rkx HO322) hb); have n1_ := Aside0.mk (blk_below (bkx BK315) hb); have n2_ := Aside0.mk (blk_below (bkx BK316) hb); have n3_ := Aside0.mk (blk_below (bkx BK317) hb); have n4_ := Aside0.mk (below_step (hb3 HB GE315 GE316 GE317) hb); have n5_ := Aside0.mk (hbox); have n6_ := Aside0.mk ((by rw [hg]; exact (below_size (hb3 HB GE315 GE316 GE317)) : w.heap.size ≤ gb324)); have n7_ := Aside0.mk ((by rw [hg]; exact (below_size (hb3 HB GE315 GE316 GE317)) : w.heap.size ≤ gb324)); have n8_ := Aside0.mk (nel hg BK315 : gb315 ≠ gb324); have n9_ := Aside0.mk (neg hg BK315 : gb324 ≠ gb315); have n10_ := Aside0.mk (nel hg BK316 : gb316 ≠ gb324); have n11_ := Aside0.mk (neg hg BK316 : gb324 ≠ gb316); have n12_ := Aside0.mk (nel hg BK317 : gb317 ≠ gb324); have n13_ := Aside0.mk (neg hg BK317 : gb324 ≠ gb317); clear HO322; clear BK315; clear BK316; clear BK317; clear HB; have HO322 := n0_; have BK315 := n1_; have BK316 := n2_; have BK317 := n3_; have HB := n4_; have BK324 := n5_; have GW324 := n6_; have GE324 := n7_; have NB315_324 := n8_; have NB324_315 := n9_; have NB316_324 := n10_; have NB324_316 := n11_; have NB317_324 := n12_; have NB324_317 := n13_; clear n0_ n1_ n2_ n3_ n4_ n5_ n6_ n7_ n8_ n9_ n10_ n11_ n12_ n13_; clear hb hbox hg; have hnb21 := NB324_315.out; have hnc21 := NB315_324.out; have hnb22 := NB324_316.out; have hnc22 := NB316_324.out; have hnb23 := NB324_317.out; have hnc23 := NB317_324.out; have hcz24_0 : w20.cell? ⟨gb324, 0, none⟩ = some (.int .i64 0) := (blk_cell BK324.out 0).trans rfl; have hcz24_1 : w20.cell? ⟨gb324, 1, none⟩ = some (.int .i64 0) := (blk_cell BK324.out 1).trans rfl; have hcz24_2 : w20.cell? ⟨gb324, 2, none⟩ = some (.slice none 0 0) := (blk_cell BK324.out 2).trans rfl; have hfz24_0 := blk_frozen BK324.out 0; have hfz24_1 := blk_frozen BK324.out 1; have hfz24_2 := blk_frozen BK324.out 2; obtain ⟨Ao25, co25, eo25⟩ := Kd.R_slice HO322.out; subst eo25) | ((with_reducible refine gate_callee (f := 50) rfl ?_); refine goesL_ (some 29) rfl rfl Try.func50 (by kernel_rfl) rfl #[.agg #[.int .i64 t318, .int .i64 t319, .slice Ao25 t320.length co25]] rfl mapx ?_; (with_reducible refine (barscanref31_Gray.calls k t318 t319 _ _ t320 t325 t326 t327 t330 _ ?side1 ?side2 A5.out).mono ?_); (case side1 => refine (Kd.R_reads' (e := 4) (base := w.heap.size) (ok := fun k_ => True) (n := t320.length) (c := co25) ?_).2.2; exact (by refine rkt ?_; exact (far3 HO322 BK324))); (case side2 => exact (Kd.R_reads' HO322.out).2.1); rintro e w26 ⟨v328, rfl, ho0, hb⟩; refine ⟨_, rfl, ?_⟩; have n0_ := Aside0.mk (Kd.R_below (by refine rkt ?_; exact (far3 HO322 BK324)) hb); have n1_ := Aside0.mk (Kd.R_lower ho0 (below_size (hb4 HB GE315 GE316 GE317 GE324))); have n2_ := Aside0.mk (blk_below (g := gb315) (o := .cells #[.int .i64 a0_0, .int .i64 a0_1, .slice A0_2 l0_2.length c0_2] 33 (0, 0)) (bky BK315 NB315_324) hb); have n3_ := Aside0.mk (blk_below (g := gb316) (o := .cells #[.int .i64 a1_0, .int .i64 a1_1, .int .i64 a1_2, .int .u32 a1_3] 38 (0, 0)) (bky BK316 NB316_324) hb); have n4_ := Aside0.mk (blk_below (g := gb317) (o := .cells #[.int .i64 0, .int .i64 0, .slice none 0 0] 24 (0, 0)) (bky BK317 NB317_324) hb); have n5_ := Aside0.mk (blk_below (g := gb324) (o := .cells #[.int .i64 t318, .int .i64 t319, .slice Ao25 t320.length co25] 33 (0, 0)) (by refine bkt ?_; refine blk_put (cs := #[.int .i64 t318, .int .i64 t319, .slice none 0 0]) ?_ 2 _ rfl; refine bkt ?_; refine blk_put (cs := #[.int .i64 t318, .int .i64 0, .slice none 0 0]) ?_ 1 _ rfl; refine bkt ?_; refine blk_put (cs := #[.int .i64 0, .int .i64 0, .slice none 0 0]) ?_ 0 _ rfl; refine bkt ?_; exact BK324.out) hb); have n6_ := Aside0.mk (below_step (hb4 HB GE315 GE316 GE317 GE324) hb); clear HO322; clear BK315; clear BK316; clear BK317; clear BK324; clear HB; have HO322 := n0_; have HO329 := n1_; have BK315 := n2_; have BK316 := n3_; have BK317 := n4_; have BK324 := n5_; have HB := n6_; clear n0_ n1_ n2_ n3_ n4_ n5_ n6_; (try clear hb); (try clear hb2); (try clear hk); (try clear hi); (try clear ho0)) | ((with_reducible refine gate_dst (N := 8) rfl ?_); refine box_event ?hg (N := 8) ?hd (cs := #[.int .i64 0, .int .i64 0, .slice none 0 0]) (t := 24) ?hr ?_; (case hd => rfl); (case hg => rfl); (case hr => first | (go_simp; done) | (go_simp; rfl)); intro gb331 hg w27 hbox hb; have n0_ := Aside0.mk (Kd.R_below (rkx HO322) hb); have n1_ := Aside0.mk (Kd.R_below (rkx HO329) hb); have n2_ := Aside0.mk (blk_below (bkx BK315) hb); have n3_ := Aside0.mk (blk_below (bkx BK316) hb); have n4_ := Aside0.mk (blk_below (bkx BK317) hb); have n5_ := Aside0.mk (blk_below (bkx BK324) hb); have n6_ := Aside0.mk (below_step (hb4 HB GE315 GE316 GE317 GE324) hb); have n7_ := Aside0.mk (hbox); have n8_ := Aside0.mk ((by rw [hg]; exact (below_size (hb4 HB GE315 GE316 GE317 GE324)) : w.heap.size ≤ gb331)); have n9_ := Aside0.mk ((by rw [hg]; exact (below_size (hb4 HB GE315 GE316 GE317 GE324)) : w.heap.size ≤ gb331)); have n10_ := Aside0.mk (nel hg BK315 : gb315 ≠ gb331); have n11_ := Aside0.mk (neg hg BK315 : gb331 ≠ gb315); have n12_ := Aside0.mk (nel hg BK316 : gb316 ≠ gb331); have n13_ := Aside0.mk (neg hg BK316 : gb331 ≠ gb316); have n14_ := Aside0.mk (nel hg BK317 : gb317 ≠ gb331); have n15_ := Aside0.mk (neg hg BK317 : gb331 ≠ gb317); have n16_ := Aside0.mk (nel hg BK324 : gb324 ≠ gb331); have n17_ := Aside0.mk (neg hg BK324 : gb331 ≠ gb324); clear HO322; clear HO329; clear BK315; clear BK316; clear BK317; clear BK324; clear HB; have HO322 := n0_; have HO329 := n1_; have BK315 := n2_; have BK316 := n3_; have BK317 := n4_; have BK324 := n5_; have HB := n6_; have BK331 := n7_; have GW331 := n8_; have GE331 := n9_; have NB315_331 := n10_; have NB331_315 := n11_; have NB316_331 := n12_; have NB331_316 := n13_; have NB317_331 := n14_; have NB331_317 := n15_; have NB324_331 := n16_; have NB331_324 := n17_; clear n0_ n1_ n2_ n3_ n4_ n5_ n6_ n7_ n8_ n9_ n10_ n11_ n12_ n13_ n14_ n15_ n16_ n17_; clear hb hbox hg; have hnb28 := NB331_315.out; have hnc28 := NB315_331.out; have hnb29 := NB331_316.out; have hnc29 := NB316_331.out; have hnb30 := NB331_317.out; have hnc30 := NB317_331.out; have hnb31 := NB331_324.out; have hnc31 := NB324_331.out; have hcz32_0 : w27.cell? ⟨gb331, 0, none⟩ = some (.int .i64 0) := (blk_cell BK331.out 0).trans rfl; have hcz32_1 : w27.cell? ⟨gb331, 1, none⟩ = some (.int .i64 0) := (blk_cell BK331.out 1).trans rfl; have hcz32_2 : w27.cell? ⟨gb331, 2, none⟩ = some (.slice none 0 0) := (blk_cell BK331.out 2).trans rfl; have hfz32_0 := blk_frozen BK331.out 0; have hfz32_1 := blk_frozen BK331.out 1; have hfz32_2 := blk_frozen BK331.out 2; obtain ⟨Ao33, co33, eo33⟩ := Kd.R_slice HO329.out; subst eo33; have hcz34_0 : w27.cell? ⟨gb316, 0, none⟩ = some (.int .i64 a1_0) := (blk_cell BK316.out 0).trans rfl; have hcz34_1 : w27.cell? ⟨gb316, 1, none⟩ = some (.int .i64 a1_1) := (blk_cell BK316.out 1).trans rfl; have hcz34_2 : w27.cell? ⟨gb316, 2, none⟩ = some (.int .i64 a1_2) := (blk_cell BK316.out 2).trans rfl; have hcz34_3 : w27.cell? ⟨gb316, 3, none⟩ = some (.int .u32 a1_3) := (blk_cell BK316.out 3).trans rfl; have hfz34_0 := blk_frozen BK316.out 0; have hfz34_1 := blk_frozen BK316.out 1; have hfz34_2 := blk_frozen BK316.out 2; have hfz34_3 := blk_frozen BK316.out 3) | ((with_reducible refine gate_callee (f := 12) rfl ?_); refine goesL_ (some 36) rfl rfl Try.func12 (by kernel_rfl) rfl #[.agg #[.int .i64 t325, .int .i64 t326, .slice Ao33 t327.length co33], .int .i64 a1_1] rfl mapx ?_; (with_reducible refine (barscanref43_Blur.calls k t325 t326 _ _ t327 a1_1 t332 t333 t334 t337 _ ?side1 ?side2 A6.out).mono ?_); (case side1 => refine (Kd.R_reads' (e := 5) (base := w.heap.size) (ok := fun k_ => True) (n := t327.length) (c := co33) ?_).2.2; exact (by refine rkt ?_; exact (far3 HO329 BK331))); (case side2 => exact (Kd.R_reads' HO329.out).2.1); rintro e w35 ⟨v335, rfl, ho0, hb⟩; refine ⟨_, rfl, ?_⟩; have n0_ := Aside0.mk (Kd.R_below (by refine rkt ?_; exact (far3 HO322 BK331)) hb); have n1_ := Aside0.mk (Kd.R_elder' (by refine rkt ?_; exact (far3 HO329 BK331)) (Kd.R_base ho0) hb); have n2_ := Aside0.mk (Kd.R_lower (Kd.R_new' ho0 (Kd.R_lt (by refine rkt ?_; exact (far3 HO329 BK331)))) (below_size (hb5 HB GE315 GE316 GE317 GE324 GE331))); have n3_ := Aside0.mk (blk_below (g := gb315) (o := .cells #[.int .i64 a0_0, .int .i64 a0_1, .slice A0_2 l0_2.length c0_2] 33 (0, 0)) (bky BK315 NB315_331) hb); have n4_ := Aside0.mk (blk_below (g := gb316) (o := .cells #[.int .i64 a1_0, .int .i64 a1_1, .int .i64 a1_2, .int .u32 a1_3] 38 (0, 0)) (bky BK316 NB316_331) hb); have n5_ := Aside0.mk (blk_below (g := gb317) (o := .cells #[.int .i64 0, .int .i64 0, .slice none 0 0] 24 (0, 0)) (bky BK317 NB317_331) hb); have n6_ := Aside0.mk (blk_below (g := gb324) (o := .cells #[.int .i64 t318, .int .i64 t319, .slice Ao25 t320.length co25] 33 (0, 0)) (bky BK324 NB324_331) hb); have n7_ := Aside0.mk (blk_below (g := gb331) (o := .cells #[.int .i64 t325, .int .i64 t326, .slice Ao33 t327.length co33] 24 (0, 0)) (by refine bkt ?_; refine blk_put (cs := #[.int .i64 t325, .int .i64 t326, .slice none 0 0]) ?_ 2 _ rfl; refine bkt ?_; refine blk_put (cs := #[.int .i64 t325, .int .i64 0, .slice none 0 0]) ?_ 1 _ rfl; refine bkt ?_; refine blk_put (cs := #[.int .i64 0, .int .i64 0, .slice none 0 0]) ?_ 0 _ rfl; refine bkt ?_; exact BK331.out) hb); have n8_ := Aside0.mk (below_step (hb5 HB GE315 GE316 GE317 GE324 GE331) hb); clear HO322; clear HO329; clear BK315; clear BK316; clear BK317; clear BK324; clear BK331; clear HB; have HO322 := n0_; have HO329 := n1_; have HO336 := n2_; have BK315 := n3_; have BK316 := n4_; have BK317 := n5_; have BK324 := n6_; have BK331 := n7_; have HB := n8_; clear n0_ n1_ n2_ n3_ n4_ n5_ n6_ n7_ n8_; (try clear hb); (try clear hb2); (try clear hk); (try clear hi); (try clear ho0)) | ((with_reducible refine gate_dst (N := 10) rfl ?_); refine box_event ?hg (N := 10) ?hd (cs := #[.int .i64 0, .int .i64 0, .slice none 0 0]) (t := 24) ?hr ?_; (case hd => rfl); (case hg => rfl); (case hr => first | (go_simp; done) | (go_simp; rfl)); intro gb338 hg w36 hbox hb; have n0_ := Aside0.mk (Kd.R_below (rkx HO322) hb); have n1_ := Aside0.mk (Kd.R_below (rkx HO329) hb); have n2_ := Aside0.mk (Kd.R_below (rkx HO336) hb); have n3_ := Aside0.mk (blk_below (bkx BK315) hb); have n4_ := Aside0.mk (blk_below (bkx BK316) hb); have n5_ := Aside0.mk (blk_below (bkx BK317) hb); have n6_ := Aside0.mk (blk_below (bkx BK324) hb); have n7_ := Aside0.mk (blk_below (bkx BK331) hb); have n8_ := Aside0.mk (below_step (hb5 HB GE315 GE316 GE317 GE324 GE331) hb); have n9_ := Aside0.mk (hbox); have n10_ := Aside0.mk ((by rw [hg]; exact (below_size (hb5 HB GE315 GE316 GE317 GE324 GE331)) : w.heap.size ≤ gb338)); have n11_ := Aside0.mk ((by rw [hg]; exact (below_size (hb5 HB GE315 GE316 GE317 GE324 GE331)) : w.heap.size ≤ gb338)); have n12_ := Aside0.mk (nel hg BK315 : gb315 ≠ gb338); have n13_ := Aside0.mk (neg hg BK315 : gb338 ≠ gb315); have n14_ := Aside0.mk (nel hg BK316 : gb316 ≠ gb338); have n15_ := Aside0.mk (neg hg BK316 : gb338 ≠ gb316); have n16_ := Aside0.mk (nel hg BK317 : gb317 ≠ gb338); have n17_ := Aside0.mk (neg hg BK317 : gb338 ≠ gb317); have n18_ := Aside0.mk (nel hg BK324 : gb324 ≠ gb338); have n19_ := Aside0.mk (neg hg BK324 : gb338 ≠ gb324); have n20_ := Aside0.mk (nel hg BK331 : gb331 ≠ gb338); have n21_ := Aside0.mk (neg hg BK331 : gb338 ≠ gb331); clear HO322; clear HO329; clear HO336; clear BK315; clear BK316; clear BK317; clear BK324; clear BK331; clear HB; have HO322 := n0_; have HO329 := n1_; have HO336 := n2_; have BK315 := n3_; have BK316 := n4_; have BK317 := n5_; have BK324 := n6_; have BK331 := n7_; have HB := n8_; have BK338 := n9_; have GW338 := n10_; have GE338 := n11_; have NB315_338 := n12_; have NB338_315 := n13_; have NB316_338 := n14_; have NB338_316 := n15_; have NB317_338 := n16_; have NB338_317 := n17_; have NB324_338 := n18_; have NB338_324 := n19_; have NB331_338 := n20_; have NB338_331 := n21_; clear n0_ n1_ n2_ n3_ n4_ n5_ n6_ n7_ n8_ n9_ n10_ n11_ n12_ n13_ n14_ n15_ n16_ n17_ n18_ n19_ n20_ n21_; clear hb hbox hg; have hnb37 := NB338_315.out; have hnc37 := NB315_338.out; have hnb38 := NB338_316.out; have hnc38 := NB316_338.out; have hnb39 := NB338_317.out; have hnc39 := NB317_338.out; have hnb40 := NB338_324.out; have hnc40 := NB324_338.out; have hnb41 := NB338_331.out; have hnc41 := NB331_338.out; have hcz42_0 : w36.cell? ⟨gb338, 0, none⟩ = some (.int .i64 0) := (blk_cell BK338.out 0).trans rfl; have hcz42_1 : w36.cell? ⟨gb338, 1, none⟩ = some (.int .i64 0) := (blk_cell BK338.out 1).trans rfl; have hcz42_2 : w36.cell? ⟨gb338, 2, none⟩ = some (.slice none 0 0) := (blk_cell BK338.out 2).trans rfl; have hfz42_0 := blk_frozen BK338.out 0; have hfz42_1 := blk_frozen BK338.out 1; have hfz42_2 := blk_frozen BK338.out 2; obtain ⟨Ao43, co43, eo43⟩ := Kd.R_slice HO336.out; subst eo43; have hcz44_0 : w36.cell? ⟨gb324, 0, none⟩ = some (.int .i64 t318) := (blk_cell BK324.out 0).trans rfl; have hcz44_1 : w36.cell? ⟨gb324, 1, none⟩ = some (.int .i64 t319) := (blk_cell BK324.out 1).trans rfl; have hcz44_2 : w36.cell? ⟨gb324, 2, none⟩ = some (.slice Ao25 t320.length co25) := (blk_cell BK324.out 2).trans rfl; have hfz44_0 := blk_frozen BK324.out 0; have hfz44_1 := blk_frozen BK324.out 1; have hfz44_2 := blk_frozen BK324.out 2; have hcz45_0 : w36.cell? ⟨gb316, 0, none⟩ = some (.int .i64 a1_0) := (blk_cell BK316.out 0).trans rfl; have hcz45_1 : w36.cell? ⟨gb316, 1, none⟩ = some (.int .i64 a1_1) := (blk_cell BK316.out 1).trans rfl; have hcz45_2 : w36.cell? ⟨gb316, 2, none⟩ = some (.int .i64 a1_2) := (blk_cell BK316.out 2).trans rfl; have hcz45_3 : w36.cell? ⟨gb316, 3, none⟩ = some (.int .u32 a1_3) := (blk_cell BK316.out 3).trans rfl; have hfz45_0 := blk_frozen BK316.out 0; have hfz45_1 := blk_frozen BK316.out 1; have hfz45_2 := blk_frozen BK316.out 2; have hfz45_3 := blk_frozen BK316.out 3) | ((with_reducible refine gate_callee (f := 25) rfl ?_); refine goesL_ (some 52) rfl rfl Try.func25 (by kernel_rfl) rfl #[.int .i64 t318, .int .i64 t319, .int .i64 a1_2, .int .u32 a1_3] rfl mapx ?_; (with_reducible refine (barscanref43_Places.calls k t318 t319 a1_2 a1_3 t339 t340 _ A8.out).mono ?_); rintro e w46 ⟨v341, rfl, ho0, hb⟩; refine ⟨_, rfl, ?_⟩; have n0_ := Aside0.mk (Kd.R_below (by refine rkt ?_; exact (far3 HO322 BK338)) hb); have n1_ := Aside0.mk (Kd.R_below (by refine rkt ?_; exact (far3 HO329 BK338)) hb); have n2_ := Aside0.mk (Kd.R_below (by refine rkt ?_; exact (far3 HO336 BK338)) hb); have n3_ := Aside0.mk (Kd.R_lower ho0 (below_size (hb6 HB GE315 GE316 GE317 GE324 GE331 GE338))); have n4_ := Aside0.mk (blk_below (g := gb315) (o := .cells #[.int .i64 a0_0, .int .i64 a0_1, .slice A0_2 l0_2.length c0_2] 33 (0, 0)) (bky BK315 NB315_338) hb); have n5_ := Aside0.mk (blk_below (g := gb316) (o := .cells #[.int .i64 a1_0, .int .i64 a1_1, .int .i64 a1_2, .int .u32 a1_3] 38 (0, 0)) (bky BK316 NB316_338) hb); have n6_ := Aside0.mk (blk_below (g := gb317) (o := .cells #[.int .i64 0, .int .i64 0, .slice none 0 0] 24 (0, 0)) (bky BK317 NB317_338) hb); have n7_ := Aside0.mk (blk_below (g := gb324) (o := .cells #[.int .i64 t318, .int .i64 t319, .slice Ao25 t320.length co25] 33 (0, 0)) (bky BK324 NB324_338) hb); have n8_ := Aside0.mk (blk_below (g := gb331) (o := .cells #[.int .i64 t325, .int .i64 t326, .slice Ao33 t327.length co33] 24 (0, 0)) (bky BK331 NB331_338) hb); have n9_ := Aside0.mk (blk_below (g := gb338) (o := .cells #[.int .i64 t332, .int .i64 t333, .slice Ao43 t334.length co43] 24 (0, 0)) (by refine bkt ?_; refine blk_put (cs := #[.int .i64 t332, .int .i64 t333, .slice none 0 0]) ?_ 2 _ rfl; refine bkt ?_; refine blk_put (cs := #[.int .i64 t332, .int .i64 0, .slice none 0 0]) ?_ 1 _ rfl; refine bkt ?_; refine blk_put (cs := #[.int .i64 0, .int .i64 0, .slice none 0 0]) ?_ 0 _ rfl; refine bkt ?_; exact BK338.out) hb); have n10_ := Aside0.mk (below_step (hb6 HB GE315 GE316 GE317 GE324 GE331 GE338) hb); clear HO322; clear HO329; clear HO336; clear BK315; clear BK316; clear BK317; clear BK324; clear BK331; clear BK338; clear HB; have HO322 := n0_; have HO329 := n1_; have HO336 := n2_; have HO342 := n3_; have BK315 := n4_; have BK316 := n5_; have BK317 := n6_; have BK324 := n7_; have BK331 := n8_; have BK338 := n9_; have HB := n10_; clear n0_ n1_ n2_ n3_ n4_ n5_ n6_ n7_ n8_ n9_ n10_; (try clear hb); (try clear hb2); (try clear hk); (try clear hi); (try clear ho0)))
     have n0_ := Aside0.mk (Kd.R_drew HO322.out)
     have n1_ := Aside0.mk (Kd.R_drew HO329.out)
     have n2_ := Aside0.mk (Kd.R_drew HO336.out)
     have n3_ := Aside0.mk (Kd.R_drew HO342.out)
     have n4_ := Aside0.mk (blk_drew BK315.out)
     have n5_ := Aside0.mk (blk_drew BK316.out)
     have n6_ := Aside0.mk (blk_drew BK317.out)
     have n7_ := Aside0.mk (blk_drew BK324.out)
     have n8_ := Aside0.mk (blk_drew BK331.out)
     have n9_ := Aside0.mk (blk_drew BK338.out)
     have n10_ := Aside0.mk (below_drew1 HB.out)
     clear HO322
     clear HO329
     clear HO336
     clear HO342
     clear BK315
     clear BK316
     clear BK317
     clear BK324
     clear BK331
     clear BK338
     clear HB
     have HO322 := n0_
     have HO329 := n1_
     have HO336 := n2_
     have HO342 := n3_
     have BK315 := n4_
     have BK316 := n5_
     have BK317 := n6_
     have BK324 := n7_
     have BK331 := n8_
     have BK338 := n9_
     have HB := n10_
     clear n0_ n1_ n2_ n3_ n4_ n5_ n6_ n7_ n8_ n9_ n10_
     refine start_ (n := 11) (S := fun w' => w'.cell? ⟨gb338, 0, none⟩ = some (.int .i64 t332) ∧ w'.cell? ⟨gb338, 1, none⟩ = some (.int .i64 t333) ∧ w'.cell? ⟨gb338, 2, none⟩ = some (.slice Ao43 t334.length co43)) (ds := []) (bA 11 0) (by kernel_rfl) rfl rfl ⟨(blk_cell BK338.out 0).trans rfl, (blk_cell BK338.out 1).trans rfl, (blk_cell BK338.out 2).trans rfl⟩ (fun hHeld => ?_); refine with_tabW barscanref43_Print.tab11 barscanref43_Print.bits11 (fun HT_ HW_ => ?_)
     generalize w46.drew = w47 at HO322 HO329 HO336 HO342 BK315 BK316 BK317 BK324 BK331 BK338 HB hHeld ⊢
     refine pt HT_ 0 59 ?_
     refine pt HT_ 2 61 ?_
     refine pt HT_ 5 64 ?_
     refine tk HT_ HW_ hHeld 1 60 ?_
     refine tk HT_ HW_ hHeld 3 62 ?_
     refine tk HT_ HW_ hHeld 6 65 ?_
     refine join_ (σ := Value × Value × Nat) 1 (bA 11 1023) (fun s_ => [(63, s_.1), (66, s_.2.1), (14, .pointer (some ⟨s_.2.2, 0, none⟩)), (67, .agg #[.int .i64 t332, .int .i64 t333, s_.2.1])]) (fun s_ w' => (w'.cell? ⟨gb338, 0, none⟩ = some (.int .i64 t332) ∧ w'.cell? ⟨gb338, 1, none⟩ = some (.int .i64 t333) ∧ w'.cell? ⟨gb338, 2, none⟩ = some (.slice Ao43 t334.length co43)) ∧ (Kd.R Kd.bool 4 w' w.heap.size (fun _ => True) (.slice Ao25 t320.length co25) t320) ∧ (Kd.R (Kd.int .u8) 5 w' w.heap.size (fun k_ => some k_ ≠ (.slice Ao43 t334.length co43 : Value).ownBlock ∧ some k_ ≠ (s_.2.1 : Value).ownBlock) (.slice Ao33 t327.length co33) t327) ∧ (Kd.R (Kd.int .u8) 5 w' w.heap.size (fun k_ => some k_ ≠ (.slice Ao33 t327.length co33 : Value).ownBlock ∧ some k_ ≠ (s_.2.1 : Value).ownBlock) (.slice Ao43 t334.length co43) t334) ∧ (Kd.R (Kd.int .i64) 3 w' w.heap.size (fun _ => True) v341 t339) ∧ (Kd.R (Kd.int .u8) 5 w' w.heap.size (fun k_ => some k_ ≠ (.slice Ao33 t327.length co33 : Value).ownBlock ∧ some k_ ≠ (.slice Ao43 t334.length co43 : Value).ownBlock) s_.2.1 y346) ∧ (w'.heap[gb315]? = some (.cells #[.int .i64 a0_0, .int .i64 a0_1, .slice A0_2 l0_2.length c0_2] 33 (0, 0))) ∧ (w'.heap[gb316]? = some (.cells #[.int .i64 a1_0, .int .i64 a1_1, .int .i64 a1_2, .int .u32 a1_3] 38 (0, 0))) ∧ (w'.heap[gb317]? = some (.cells #[.int .i64 0, .int .i64 0, .slice none 0 0] 24 (0, 0))) ∧ (w'.heap[gb324]? = some (.cells #[.int .i64 t318, .int .i64 t319, .slice Ao25 t320.length co25] 33 (0, 0))) ∧ (w'.heap[gb331]? = some (.cells #[.int .i64 t325, .int .i64 t326, .slice Ao33 t327.length co33] 24 (0, 0))) ∧ (w'.heap[gb338]? = some (.cells #[.int .i64 t332, .int .i64 t333, .slice Ao43 t334.length co43] 24 (0, 0))) ∧ (w'.heap[s_.2.2]? = some (.cells #[.int .i64 0, .int .i64 0, .slice none 0 0] 24 (0, 0))) ∧ (w.heap.size ≤ s_.2.2) ∧ (w.heap.size ≤ s_.2.2) ∧ (gb315 ≠ s_.2.2) ∧ (s_.2.2 ≠ gb315) ∧ (gb316 ≠ s_.2.2) ∧ (s_.2.2 ≠ gb316) ∧ (gb317 ≠ s_.2.2) ∧ (s_.2.2 ≠ gb317) ∧ (gb324 ≠ s_.2.2) ∧ (s_.2.2 ≠ gb324) ∧ (gb331 ≠ s_.2.2) ∧ (s_.2.2 ≠ gb331) ∧ (gb338 ≠ s_.2.2) ∧ (s_.2.2 ≠ gb338) ∧ (Below w.heap.size w w')) ?_ ?_
     rotate_left
     ·intro hCont
      refine two_ (i := 4) (j := 9) (Ni := some 63) (Nj := some 14) (bA 11 127) (bA 11 623) rfl rfl rfl rfl (two_of HT_.out (by kernel_rfl)) (by decide) (by decide) (fun K hK => ?_) (fun K hK => ?_)
      ·skip
       refine Kd.R_lit_step (Kd.int .u8) _ 5 ?hg (N := 63) ?hd (xs := ([] : List Int)) (inner := []) (ok := fun _ => True) (okp := fun _ => True) ?hr ?hp (fun _ hk => hk) trivial (Below.refl _ _) (Nat.le_refl _) (by simp) ?_; (case hd => rfl); (case hg => rfl); (case hr => first | (go_simp; done) | (go_simp; rfl)); (case hp => exact (Reps.none _ _))
       intro v344 w48 ho49 hb hg_ hnew_
       clear hg_ hnew_
       (first | rw [← Ny343.out] at ho49 | (simp only [Int.reduceToNat] at ho49; rw [← Ny343.out] at ho49))
       have n0_ := Aside0.mk (Kd.R_below (rkx HO322) hb)
       have n1_ := Aside0.mk (Kd.R_elder' (rkx HO329) (Kd.R_base ho49) hb)
       have n2_ := Aside0.mk (Kd.R_elder' (rkx HO336) (Kd.R_base ho49) hb)
       have n3_ := Aside0.mk (Kd.R_below (rkx HO342) hb)
       have n4_ := Aside0.mk (Kd.R_lower (Kd.R_new' (Kd.R_new' ho49 (Kd.R_lt (rkx HO329))) (Kd.R_lt (rkx HO336))) (below_size (hb6 HB GE315 GE316 GE317 GE324 GE331 GE338)))
       have n5_ := Aside0.mk (blk_below (bkx BK315) hb)
       have n6_ := Aside0.mk (blk_below (bkx BK316) hb)
       have n7_ := Aside0.mk (blk_below (bkx BK317) hb)
       have n8_ := Aside0.mk (blk_below (bkx BK324) hb)
       have n9_ := Aside0.mk (blk_below (bkx BK331) hb)
       have n10_ := Aside0.mk (blk_below (bkx BK338) hb)
       have n11_ := Aside0.mk (below_step (hb6 HB GE315 GE316 GE317 GE324 GE331 GE338) hb)
       clear HO322
       clear HO329
       clear HO336
       clear HO342
       clear BK315
       clear BK316
       clear BK317
       clear BK324
       clear BK331
       clear BK338
       clear HB
       have HO322 := n0_
       have HO329 := n1_
       have HO336 := n2_
       have HO342 := n3_
       have HO345 := n4_
       have BK315 := n5_
       have BK316 := n6_
       have BK317 := n7_
       have BK324 := n8_
       have BK331 := n9_
       have BK338 := n10_
       have HB := n11_
       clear n0_ n1_ n2_ n3_ n4_ n5_ n6_ n7_ n8_ n9_ n10_ n11_
       clear hb ho49
       refine hK.out _ _ ⟨(blk_cell BK338.out 0).trans rfl, (blk_cell BK338.out 1).trans rfl, (blk_cell BK338.out 2).trans rfl⟩ (fun hHeld => ?_)
       clear hK K
       refine norm_ (a' := ?_) ?_ ?_
       rotate_left
       ·show Act.put _ (some 63) _ = _
        simp only [Act.put, List.setIfInBounds_toArray, List.set_cons_zero, List.set_cons_succ, i64_w, i32_w]
        rfl
       refine two_ (i := 7) (j := 9) (Ni := some 66) (Nj := some 14) (bA 11 255) (bA 11 639) rfl rfl rfl rfl (two_of HT_.out (by kernel_rfl)) (by decide) (by decide) (fun K hK => ?_) (fun K hK => ?_)
       ·skip
        refine Kd.R_append_rows_step (Kd.int .u8) (w0 := w) w.heap.size (by rfl) (.tmp 63) (.tmp 65) 22 5 (.int .u8 0) 1 rfl Try.underlying22 info5 rfl (by decide) (by omega) v344 y343 t334 _ _ _ (fun k_ => some k_ ≠ (.slice Ao33 t327.length co33 : Value).ownBlock ∧ some k_ ≠ (.slice Ao43 t334.length co43 : Value).ownBlock) (fun _ => False) rfl rfl ?aO ?aR (fun _ _ h => h) (fun _ h => h.elim) ?aF ?aB ?aS ?aL ?_
        (case aR => repeat (first | exact (Kd.R_reads' HO336.out).2.2 | (with_reducible refine Kd.C_alloc ?_ _) | (with_reducible refine Kd.C_drewN ?_ _) | (with_reducible refine Kd.C_drew ?_)))
        (case aB => exact (hb6 HB GE315 GE316 GE317 GE324 GE331 GE338))
        (case aF => exact (fun k_ hk => ⟨Kd.fresh' (Kd.R_lt (rkx HO329)) k_ hk, Kd.fresh' (Kd.R_lt (rkx HO336)) k_ hk⟩))
        (case aO => exact (by refine rkt ?_; exact Kd.R_mono HO345.out (fun _ hk => ⟨hk.1.2, hk.2⟩)))
        (case aS => exact (below_size (hb6 HB GE315 GE316 GE317 GE324 GE331 GE338)))
        (case aL => have := LMc10.out; omega)
        intro v347 w50 ho hb hg hat
        rw [← Ny346.out] at ho
        have n0_ := Aside0.mk (blk_grown (g := gb315) (o := .cells #[.int .i64 a0_0, .int .i64 a0_1, .slice A0_2 l0_2.length c0_2] 33 (0, 0)) (bkx BK315) hg (Kd.R_ne HO345.out BK315.out (by decide)))
        have n1_ := Aside0.mk (blk_grown (g := gb316) (o := .cells #[.int .i64 a1_0, .int .i64 a1_1, .int .i64 a1_2, .int .u32 a1_3] 38 (0, 0)) (bkx BK316) hg (Kd.R_ne HO345.out BK316.out (by decide)))
        have n2_ := Aside0.mk (blk_grown (g := gb317) (o := .cells #[.int .i64 0, .int .i64 0, .slice none 0 0] 24 (0, 0)) (bkx BK317) hg (Kd.R_ne HO345.out BK317.out (by decide)))
        have n3_ := Aside0.mk (Kd.R_over' (rkx HO322) (Kd.R_typed (rkx HO345)) (by decide) hg)
        have n4_ := Aside0.mk (blk_grown (g := gb324) (o := .cells #[.int .i64 t318, .int .i64 t319, .slice Ao25 t320.length co25] 33 (0, 0)) (bkx BK324) hg (Kd.R_ne HO345.out BK324.out (by decide)))
        have n5_ := Aside0.mk (Kd.R_after (ok := (fun k_ => some k_ ≠ (.slice Ao43 t334.length co43 : Value).ownBlock)) (by refine rkt ?_; exact Kd.R_mono HO329.out (fun _ hk => ⟨hk.1.2, hk.2⟩)) hg hat)
        have n6_ := Aside0.mk (blk_grown (g := gb331) (o := .cells #[.int .i64 t325, .int .i64 t326, .slice Ao33 t327.length co33] 24 (0, 0)) (bkx BK331) hg (Kd.R_ne HO345.out BK331.out (by decide)))
        have n7_ := Aside0.mk (Kd.R_after (ok := (fun k_ => some k_ ≠ (.slice Ao33 t327.length co33 : Value).ownBlock)) (by refine rkt ?_; exact Kd.R_mono HO336.out (fun _ hk => ⟨hk.1.2, hk.2⟩)) hg hat)
        have n8_ := Aside0.mk (blk_grown (g := gb338) (o := .cells #[.int .i64 t332, .int .i64 t333, .slice Ao43 t334.length co43] 24 (0, 0)) (bkx BK338) hg (Kd.R_ne HO345.out BK338.out (by decide)))
        have n9_ := Aside0.mk (Kd.R_over' (rkx HO342) (Kd.R_typed (rkx HO345)) (by decide) hg)
        have n10_ := Aside0.mk (hb)
        have n11_ := Aside0.mk (ho)
        clear BK315
        clear BK316
        clear BK317
        clear HO322
        clear BK324
        clear HO329
        clear BK331
        clear HO336
        clear BK338
        clear HO342
        clear HB
        clear HO345
        have BK315 := n0_
        have BK316 := n1_
        have BK317 := n2_
        have HO322 := n3_
        have BK324 := n4_
        have HO329 := n5_
        have BK331 := n6_
        have HO336 := n7_
        have BK338 := n8_
        have HO342 := n9_
        have HB := n10_
        have HO348 := n11_
        clear n0_ n1_ n2_ n3_ n4_ n5_ n6_ n7_ n8_ n9_ n10_ n11_
        clear ho hb hg hat
        obtain ⟨Ao51, co51, eo51⟩ := Kd.R_slice HO348.out
        (first | subst eo51 | (injection eo51 with f1_ f2_ f3_; have f4_ := f1_.symm; have f5_ := f3_.symm; clear f1_ f2_ f3_; subst f4_; subst f5_))
        refine hK.out _ _ ⟨(blk_cell BK338.out 0).trans rfl, (blk_cell BK338.out 1).trans rfl, (blk_cell BK338.out 2).trans rfl⟩ (fun hHeld => ?_)
        clear hK K
        refine norm_ (a' := ?_) ?_ ?_
        rotate_left
        ·show Act.put _ (some 66) _ = _
         simp only [Act.put, List.setIfInBounds_toArray, List.set_cons_zero, List.set_cons_succ, i64_w, i32_w]
         rfl
        refine pt HT_ 8 67 ?_
        refine one_ (i := 9) (N := some 14) (bA 11 1023) rfl rfl (one_of HT_.out (by kernel_rfl)) (by decide) (fun K hK => ?_)
        refine box_step ?hg (N := 14) ?hd (cs := #[.int .i64 0, .int .i64 0, .slice none 0 0]) (t := 24) ?hr ?_; (case hd => rfl); (case hg => rfl); (case hr => first | (go_simp; done) | (go_simp; rfl))
        intro gb349 hg w52 hbox hb
        have n0_ := Aside0.mk (Kd.R_below (rkx HO322) hb)
        have n1_ := Aside0.mk (Kd.R_below (rkx HO329) hb)
        have n2_ := Aside0.mk (Kd.R_below (rkx HO336) hb)
        have n3_ := Aside0.mk (Kd.R_below (rkx HO342) hb)
        have n4_ := Aside0.mk (Kd.R_below (rkx HO348) hb)
        have n5_ := Aside0.mk (blk_below (bkx BK315) hb)
        have n6_ := Aside0.mk (blk_below (bkx BK316) hb)
        have n7_ := Aside0.mk (blk_below (bkx BK317) hb)
        have n8_ := Aside0.mk (blk_below (bkx BK324) hb)
        have n9_ := Aside0.mk (blk_below (bkx BK331) hb)
        have n10_ := Aside0.mk (blk_below (bkx BK338) hb)
        have n11_ := Aside0.mk (below_step (hb6 HB GE315 GE316 GE317 GE324 GE331 GE338) hb)
        have n12_ := Aside0.mk (hbox)
        have n13_ := Aside0.mk ((by rw [hg]; exact (below_size (hb6 HB GE315 GE316 GE317 GE324 GE331 GE338)) : w.heap.size ≤ gb349))
        have n14_ := Aside0.mk ((by rw [hg]; exact (below_size (hb6 HB GE315 GE316 GE317 GE324 GE331 GE338)) : w.heap.size ≤ gb349))
        have n15_ := Aside0.mk (nel hg BK315 : gb315 ≠ gb349)
        have n16_ := Aside0.mk (neg hg BK315 : gb349 ≠ gb315)
        have n17_ := Aside0.mk (nel hg BK316 : gb316 ≠ gb349)
        have n18_ := Aside0.mk (neg hg BK316 : gb349 ≠ gb316)
        have n19_ := Aside0.mk (nel hg BK317 : gb317 ≠ gb349)
        have n20_ := Aside0.mk (neg hg BK317 : gb349 ≠ gb317)
        have n21_ := Aside0.mk (nel hg BK324 : gb324 ≠ gb349)
        have n22_ := Aside0.mk (neg hg BK324 : gb349 ≠ gb324)
        have n23_ := Aside0.mk (nel hg BK331 : gb331 ≠ gb349)
        have n24_ := Aside0.mk (neg hg BK331 : gb349 ≠ gb331)
        have n25_ := Aside0.mk (nel hg BK338 : gb338 ≠ gb349)
        have n26_ := Aside0.mk (neg hg BK338 : gb349 ≠ gb338)
        clear HO322
        clear HO329
        clear HO336
        clear HO342
        clear HO348
        clear BK315
        clear BK316
        clear BK317
        clear BK324
        clear BK331
        clear BK338
        clear HB
        have HO322 := n0_
        have HO329 := n1_
        have HO336 := n2_
        have HO342 := n3_
        have HO348 := n4_
        have BK315 := n5_
        have BK316 := n6_
        have BK317 := n7_
        have BK324 := n8_
        have BK331 := n9_
        have BK338 := n10_
        have HB := n11_
        have BK349 := n12_
        have GW349 := n13_
        have GE349 := n14_
        have NB315_349 := n15_
        have NB349_315 := n16_
        have NB316_349 := n17_
        have NB349_316 := n18_
        have NB317_349 := n19_
        have NB349_317 := n20_
        have NB324_349 := n21_
        have NB349_324 := n22_
        have NB331_349 := n23_
        have NB349_331 := n24_
        have NB338_349 := n25_
        have NB349_338 := n26_
        clear n0_ n1_ n2_ n3_ n4_ n5_ n6_ n7_ n8_ n9_ n10_ n11_ n12_ n13_ n14_ n15_ n16_ n17_ n18_ n19_ n20_ n21_ n22_ n23_ n24_ n25_ n26_
        clear hb hbox hg
        refine hK.out _ _ ⟨(blk_cell BK338.out 0).trans rfl, (blk_cell BK338.out 1).trans rfl, (blk_cell BK338.out 2).trans rfl⟩ (fun hHeld => ?_)
        clear hK K
        refine norm_ (a' := ?_) ?_ ?_
        rotate_left
        ·show Act.put _ (some 14) _ = _
         simp only [Act.put, List.setIfInBounds_toArray, List.set_cons_zero, List.set_cons_succ, i64_w, i32_w]
         rfl
        exact norm_ (by simp only [putAll, Act.put, List.setIfInBounds_toArray, List.set_cons_zero, List.set_cons_succ]) (hCont (v344, .slice Ao51 y346.length co51, gb349) _ ⟨hHeld, (rkx HO322), (rkx HO329), (rkx HO336), (rkx HO342), (rkx HO348), (bkx BK315), (bkx BK316), (bkx BK317), (bkx BK324), (bkx BK331), (bkx BK338), (bkx BK349), GW349.out, GE349.out, NB315_349.out, NB349_315.out, NB316_349.out, NB349_316.out, NB317_349.out, NB349_317.out, NB324_349.out, NB349_324.out, NB331_349.out, NB349_331.out, NB338_349.out, NB349_338.out, (hb7 HB GE315 GE316 GE317 GE324 GE331 GE338 GE349)⟩)
       ·skip
        refine box_step ?hg (N := 14) ?hd (cs := #[.int .i64 0, .int .i64 0, .slice none 0 0]) (t := 24) ?hr ?_; (case hd => rfl); (case hg => rfl); (case hr => first | (go_simp; done) | (go_simp; rfl))
        intro gb349 hg w50 hbox hb
        have n0_ := Aside0.mk (Kd.R_below (rkx HO322) hb)
        have n1_ := Aside0.mk (Kd.R_below (rkx HO329) hb)
        have n2_ := Aside0.mk (Kd.R_below (rkx HO336) hb)
        have n3_ := Aside0.mk (Kd.R_below (rkx HO342) hb)
        have n4_ := Aside0.mk (Kd.R_below (rkx HO345) hb)
        have n5_ := Aside0.mk (blk_below (bkx BK315) hb)
        have n6_ := Aside0.mk (blk_below (bkx BK316) hb)
        have n7_ := Aside0.mk (blk_below (bkx BK317) hb)
        have n8_ := Aside0.mk (blk_below (bkx BK324) hb)
        have n9_ := Aside0.mk (blk_below (bkx BK331) hb)
        have n10_ := Aside0.mk (blk_below (bkx BK338) hb)
        have n11_ := Aside0.mk (below_step (hb6 HB GE315 GE316 GE317 GE324 GE331 GE338) hb)
        have n12_ := Aside0.mk (hbox)
        have n13_ := Aside0.mk ((by rw [hg]; exact (below_size (hb6 HB GE315 GE316 GE317 GE324 GE331 GE338)) : w.heap.size ≤ gb349))
        have n14_ := Aside0.mk ((by rw [hg]; exact (below_size (hb6 HB GE315 GE316 GE317 GE324 GE331 GE338)) : w.heap.size ≤ gb349))
        have n15_ := Aside0.mk (nel hg BK315 : gb315 ≠ gb349)
        have n16_ := Aside0.mk (neg hg BK315 : gb349 ≠ gb315)
        have n17_ := Aside0.mk (nel hg BK316 : gb316 ≠ gb349)
        have n18_ := Aside0.mk (neg hg BK316 : gb349 ≠ gb316)
        have n19_ := Aside0.mk (nel hg BK317 : gb317 ≠ gb349)
        have n20_ := Aside0.mk (neg hg BK317 : gb349 ≠ gb317)
        have n21_ := Aside0.mk (nel hg BK324 : gb324 ≠ gb349)
        have n22_ := Aside0.mk (neg hg BK324 : gb349 ≠ gb324)
        have n23_ := Aside0.mk (nel hg BK331 : gb331 ≠ gb349)
        have n24_ := Aside0.mk (neg hg BK331 : gb349 ≠ gb331)
        have n25_ := Aside0.mk (nel hg BK338 : gb338 ≠ gb349)
        have n26_ := Aside0.mk (neg hg BK338 : gb349 ≠ gb338)
        clear HO322
        clear HO329
        clear HO336
        clear HO342
        clear HO345
        clear BK315
        clear BK316
        clear BK317
        clear BK324
        clear BK331
        clear BK338
        clear HB
        have HO322 := n0_
        have HO329 := n1_
        have HO336 := n2_
        have HO342 := n3_
        have HO345 := n4_
        have BK315 := n5_
        have BK316 := n6_
        have BK317 := n7_
        have BK324 := n8_
        have BK331 := n9_
        have BK338 := n10_
        have HB := n11_
        have BK349 := n12_
        have GW349 := n13_
        have GE349 := n14_
        have NB315_349 := n15_
        have NB349_315 := n16_
        have NB316_349 := n17_
        have NB349_316 := n18_
        have NB317_349 := n19_
        have NB349_317 := n20_
        have NB324_349 := n21_
        have NB349_324 := n22_
        have NB331_349 := n23_
        have NB349_331 := n24_
        have NB338_349 := n25_
        have NB349_338 := n26_
        clear n0_ n1_ n2_ n3_ n4_ n5_ n6_ n7_ n8_ n9_ n10_ n11_ n12_ n13_ n14_ n15_ n16_ n17_ n18_ n19_ n20_ n21_ n22_ n23_ n24_ n25_ n26_
        clear hb hbox hg
        refine hK.out _ _ ⟨(blk_cell BK338.out 0).trans rfl, (blk_cell BK338.out 1).trans rfl, (blk_cell BK338.out 2).trans rfl⟩ (fun hHeld => ?_)
        clear hK K
        refine norm_ (a' := ?_) ?_ ?_
        rotate_left
        ·show Act.put _ (some 14) _ = _
         simp only [Act.put, List.setIfInBounds_toArray, List.set_cons_zero, List.set_cons_succ, i64_w, i32_w]
         rfl
        refine one_ (i := 7) (N := some 66) (bA 11 767) rfl rfl (one_of HT_.out (by kernel_rfl)) (by decide) (fun K hK => ?_)
        refine Kd.R_append_rows_step (Kd.int .u8) (w0 := w) w.heap.size (by rfl) (.tmp 63) (.tmp 65) 22 5 (.int .u8 0) 1 rfl Try.underlying22 info5 rfl (by decide) (by omega) v344 y343 t334 _ _ _ (fun k_ => some k_ ≠ (.slice Ao33 t327.length co33 : Value).ownBlock ∧ some k_ ≠ (.slice Ao43 t334.length co43 : Value).ownBlock) (fun _ => False) rfl rfl ?aO ?aR (fun _ _ h => h) (fun _ h => h.elim) ?aF ?aB ?aS ?aL ?_
        (case aR => repeat (first | exact (Kd.R_reads' HO336.out).2.2 | (with_reducible refine Kd.C_alloc ?_ _) | (with_reducible refine Kd.C_drewN ?_ _) | (with_reducible refine Kd.C_drew ?_)))
        (case aB => exact (hb7 HB GE315 GE316 GE317 GE324 GE331 GE338 GE349))
        (case aF => exact (fun k_ hk => ⟨Kd.fresh' (Kd.R_lt (rkx HO329)) k_ hk, Kd.fresh' (Kd.R_lt (rkx HO336)) k_ hk⟩))
        (case aO => exact (by refine rkt ?_; exact Kd.R_mono HO345.out (fun _ hk => ⟨hk.1.2, hk.2⟩)))
        (case aS => exact (below_size (hb7 HB GE315 GE316 GE317 GE324 GE331 GE338 GE349)))
        (case aL => have := LMc10.out; omega)
        intro v347 w51 ho hb hg hat
        rw [← Ny346.out] at ho
        have n0_ := Aside0.mk (blk_grown (g := gb315) (o := .cells #[.int .i64 a0_0, .int .i64 a0_1, .slice A0_2 l0_2.length c0_2] 33 (0, 0)) (bkx BK315) hg (Kd.R_ne HO345.out BK315.out (by decide)))
        have n1_ := Aside0.mk (blk_grown (g := gb316) (o := .cells #[.int .i64 a1_0, .int .i64 a1_1, .int .i64 a1_2, .int .u32 a1_3] 38 (0, 0)) (bkx BK316) hg (Kd.R_ne HO345.out BK316.out (by decide)))
        have n2_ := Aside0.mk (blk_grown (g := gb317) (o := .cells #[.int .i64 0, .int .i64 0, .slice none 0 0] 24 (0, 0)) (bkx BK317) hg (Kd.R_ne HO345.out BK317.out (by decide)))
        have n3_ := Aside0.mk (Kd.R_over' (rkx HO322) (Kd.R_typed (rkx HO345)) (by decide) hg)
        have n4_ := Aside0.mk (blk_grown (g := gb324) (o := .cells #[.int .i64 t318, .int .i64 t319, .slice Ao25 t320.length co25] 33 (0, 0)) (bkx BK324) hg (Kd.R_ne HO345.out BK324.out (by decide)))
        have n5_ := Aside0.mk (Kd.R_after (ok := (fun k_ => some k_ ≠ (.slice Ao43 t334.length co43 : Value).ownBlock)) (by refine rkt ?_; exact Kd.R_mono HO329.out (fun _ hk => ⟨hk.1.2, hk.2⟩)) hg hat)
        have n6_ := Aside0.mk (blk_grown (g := gb331) (o := .cells #[.int .i64 t325, .int .i64 t326, .slice Ao33 t327.length co33] 24 (0, 0)) (bkx BK331) hg (Kd.R_ne HO345.out BK331.out (by decide)))
        have n7_ := Aside0.mk (Kd.R_after (ok := (fun k_ => some k_ ≠ (.slice Ao33 t327.length co33 : Value).ownBlock)) (by refine rkt ?_; exact Kd.R_mono HO336.out (fun _ hk => ⟨hk.1.2, hk.2⟩)) hg hat)
        have n8_ := Aside0.mk (blk_grown (g := gb338) (o := .cells #[.int .i64 t332, .int .i64 t333, .slice Ao43 t334.length co43] 24 (0, 0)) (bkx BK338) hg (Kd.R_ne HO345.out BK338.out (by decide)))
        have n9_ := Aside0.mk (Kd.R_over' (rkx HO342) (Kd.R_typed (rkx HO345)) (by decide) hg)
        have n10_ := Aside0.mk (blk_grown (g := gb349) (o := .cells #[.int .i64 0, .int .i64 0, .slice none 0 0] 24 (0, 0)) (bkx BK349) hg (Kd.R_ne HO345.out BK349.out (by decide)))
        have n11_ := Aside0.mk (hb)
        have n12_ := Aside0.mk (ho)
        clear BK315
        clear BK316
        clear BK317
        clear HO322
        clear BK324
        clear HO329
        clear BK331
        clear HO336
        clear BK338
        clear HO342
        clear BK349
        clear HB
        clear HO345
        have BK315 := n0_
        have BK316 := n1_
        have BK317 := n2_
        have HO322 := n3_
        have BK324 := n4_
        have HO329 := n5_
        have BK331 := n6_
        have HO336 := n7_
        have BK338 := n8_
        have HO342 := n9_
        have BK349 := n10_
        have HB := n11_
        have HO348 := n12_
        clear n0_ n1_ n2_ n3_ n4_ n5_ n6_ n7_ n8_ n9_ n10_ n11_ n12_
        clear ho hb hg hat
        obtain ⟨Ao52, co52, eo52⟩ := Kd.R_slice HO348.out
        (first | subst eo52 | (injection eo52 with f1_ f2_ f3_; have f4_ := f1_.symm; have f5_ := f3_.symm; clear f1_ f2_ f3_; subst f4_; subst f5_))
        refine hK.out _ _ ⟨(blk_cell BK338.out 0).trans rfl, (blk_cell BK338.out 1).trans rfl, (blk_cell BK338.out 2).trans rfl⟩ (fun hHeld => ?_)
        clear hK K
        refine norm_ (a' := ?_) ?_ ?_
        rotate_left
        ·show Act.put _ (some 66) _ = _
         simp only [Act.put, List.setIfInBounds_toArray, List.set_cons_zero, List.set_cons_succ, i64_w, i32_w]
         rfl
        refine pt HT_ 8 67 ?_
        exact norm_ (by simp only [putAll, Act.put, List.setIfInBounds_toArray, List.set_cons_zero, List.set_cons_succ]) (hCont (v344, .slice Ao52 y346.length co52, gb349) _ ⟨hHeld, (rkx HO322), (rkx HO329), (rkx HO336), (rkx HO342), (rkx HO348), (bkx BK315), (bkx BK316), (bkx BK317), (bkx BK324), (bkx BK331), (bkx BK338), (bkx BK349), GW349.out, GE349.out, NB315_349.out, NB349_315.out, NB316_349.out, NB349_316.out, NB317_349.out, NB349_317.out, NB324_349.out, NB349_324.out, NB331_349.out, NB349_331.out, NB338_349.out, NB349_338.out, (hb7 HB GE315 GE316 GE317 GE324 GE331 GE338 GE349)⟩)
      ·skip
       refine box_step ?hg (N := 14) ?hd (cs := #[.int .i64 0, .int .i64 0, .slice none 0 0]) (t := 24) ?hr ?_; (case hd => rfl); (case hg => rfl); (case hr => first | (go_simp; done) | (go_simp; rfl))
       intro gb349 hg w48 hbox hb
       have n0_ := Aside0.mk (Kd.R_below (rkx HO322) hb)
       have n1_ := Aside0.mk (Kd.R_below (rkx HO329) hb)
       have n2_ := Aside0.mk (Kd.R_below (rkx HO336) hb)
       have n3_ := Aside0.mk (Kd.R_below (rkx HO342) hb)
       have n4_ := Aside0.mk (blk_below (bkx BK315) hb)
       have n5_ := Aside0.mk (blk_below (bkx BK316) hb)
       have n6_ := Aside0.mk (blk_below (bkx BK317) hb)
       have n7_ := Aside0.mk (blk_below (bkx BK324) hb)
       have n8_ := Aside0.mk (blk_below (bkx BK331) hb)
       have n9_ := Aside0.mk (blk_below (bkx BK338) hb)
       have n10_ := Aside0.mk (below_step (hb6 HB GE315 GE316 GE317 GE324 GE331 GE338) hb)
       have n11_ := Aside0.mk (hbox)
       have n12_ := Aside0.mk ((by rw [hg]; exact (below_size (hb6 HB GE315 GE316 GE317 GE324 GE331 GE338)) : w.heap.size ≤ gb349))
       have n13_ := Aside0.mk ((by rw [hg]; exact (below_size (hb6 HB GE315 GE316 GE317 GE324 GE331 GE338)) : w.heap.size ≤ gb349))
       have n14_ := Aside0.mk (nel hg BK315 : gb315 ≠ gb349)
       have n15_ := Aside0.mk (neg hg BK315 : gb349 ≠ gb315)
       have n16_ := Aside0.mk (nel hg BK316 : gb316 ≠ gb349)
       have n17_ := Aside0.mk (neg hg BK316 : gb349 ≠ gb316)
       have n18_ := Aside0.mk (nel hg BK317 : gb317 ≠ gb349)
       have n19_ := Aside0.mk (neg hg BK317 : gb349 ≠ gb317)
       have n20_ := Aside0.mk (nel hg BK324 : gb324 ≠ gb349)
       have n21_ := Aside0.mk (neg hg BK324 : gb349 ≠ gb324)
       have n22_ := Aside0.mk (nel hg BK331 : gb331 ≠ gb349)
       have n23_ := Aside0.mk (neg hg BK331 : gb349 ≠ gb331)
       have n24_ := Aside0.mk (nel hg BK338 : gb338 ≠ gb349)
       have n25_ := Aside0.mk (neg hg BK338 : gb349 ≠ gb338)
       clear HO322
       clear HO329
       clear HO336
       clear HO342
       clear BK315
       clear BK316
       clear BK317
       clear BK324
       clear BK331
       clear BK338
       clear HB
       have HO322 := n0_
       have HO329 := n1_
       have HO336 := n2_
       have HO342 := n3_
       have BK315 := n4_
       have BK316 := n5_
       have BK317 := n6_
       have BK324 := n7_
       have BK331 := n8_
       have BK338 := n9_
       have HB := n10_
       have BK349 := n11_
       have GW349 := n12_
       have GE349 := n13_
       have NB315_349 := n14_
       have NB349_315 := n15_
       have NB316_349 := n16_
       have NB349_316 := n17_
       have NB317_349 := n18_
       have NB349_317 := n19_
       have NB324_349 := n20_
       have NB349_324 := n21_
       have NB331_349 := n22_
       have NB349_331 := n23_
       have NB338_349 := n24_
       have NB349_338 := n25_
       clear n0_ n1_ n2_ n3_ n4_ n5_ n6_ n7_ n8_ n9_ n10_ n11_ n12_ n13_ n14_ n15_ n16_ n17_ n18_ n19_ n20_ n21_ n22_ n23_ n24_ n25_
       clear hb hbox hg
       refine hK.out _ _ ⟨(blk_cell BK338.out 0).trans rfl, (blk_cell BK338.out 1).trans rfl, (blk_cell BK338.out 2).trans rfl⟩ (fun hHeld => ?_)
       clear hK K
       refine norm_ (a' := ?_) ?_ ?_
       rotate_left
       ·show Act.put _ (some 14) _ = _
        simp only [Act.put, List.setIfInBounds_toArray, List.set_cons_zero, List.set_cons_succ, i64_w, i32_w]
        rfl
       refine one_ (i := 4) (N := some 63) (bA 11 639) rfl rfl (one_of HT_.out (by kernel_rfl)) (by decide) (fun K hK => ?_)
       refine Kd.R_lit_step (Kd.int .u8) _ 5 ?hg (N := 63) ?hd (xs := ([] : List Int)) (inner := []) (ok := fun _ => True) (okp := fun _ => True) ?hr ?hp (fun _ hk => hk) trivial (Below.refl _ _) (Nat.le_refl _) (by simp) ?_; (case hd => rfl); (case hg => rfl); (case hr => first | (go_simp; done) | (go_simp; rfl)); (case hp => exact (Reps.none _ _))
       intro v344 w49 ho50 hb hg_ hnew_
       clear hg_ hnew_
       (first | rw [← Ny343.out] at ho50 | (simp only [Int.reduceToNat] at ho50; rw [← Ny343.out] at ho50))
       have n0_ := Aside0.mk (Kd.R_below (rkx HO322) hb)
       have n1_ := Aside0.mk (Kd.R_elder' (rkx HO329) (Kd.R_base ho50) hb)
       have n2_ := Aside0.mk (Kd.R_elder' (rkx HO336) (Kd.R_base ho50) hb)
       have n3_ := Aside0.mk (Kd.R_below (rkx HO342) hb)
       have n4_ := Aside0.mk (Kd.R_lower (Kd.R_new' (Kd.R_new' ho50 (Kd.R_lt (rkx HO329))) (Kd.R_lt (rkx HO336))) (below_size (hb7 HB GE315 GE316 GE317 GE324 GE331 GE338 GE349)))
       have n5_ := Aside0.mk (blk_below (bkx BK315) hb)
       have n6_ := Aside0.mk (blk_below (bkx BK316) hb)
       have n7_ := Aside0.mk (blk_below (bkx BK317) hb)
       have n8_ := Aside0.mk (blk_below (bkx BK324) hb)
       have n9_ := Aside0.mk (blk_below (bkx BK331) hb)
       have n10_ := Aside0.mk (blk_below (bkx BK338) hb)
       have n11_ := Aside0.mk (blk_below (bkx BK349) hb)
       have n12_ := Aside0.mk (below_step (hb7 HB GE315 GE316 GE317 GE324 GE331 GE338 GE349) hb)
       clear HO322
       clear HO329
       clear HO336
       clear HO342
       clear BK315
       clear BK316
       clear BK317
       clear BK324
       clear BK331
       clear BK338
       clear BK349
       clear HB
       have HO322 := n0_
       have HO329 := n1_
       have HO336 := n2_
       have HO342 := n3_
       have HO345 := n4_
       have BK315 := n5_
       have BK316 := n6_
       have BK317 := n7_
       have BK324 := n8_
       have BK331 := n9_
       have BK338 := n10_
       have BK349 := n11_
       have HB := n12_
       clear n0_ n1_ n2_ n3_ n4_ n5_ n6_ n7_ n8_ n9_ n10_ n11_ n12_
       clear hb ho50
       refine hK.out _ _ ⟨(blk_cell BK338.out 0).trans rfl, (blk_cell BK338.out 1).trans rfl, (blk_cell BK338.out 2).trans rfl⟩ (fun hHeld => ?_)
       clear hK K
       refine norm_ (a' := ?_) ?_ ?_
       rotate_left
       ·show Act.put _ (some 63) _ = _
        simp only [Act.put, List.setIfInBounds_toArray, List.set_cons_zero, List.set_cons_succ, i64_w, i32_w]
        rfl
       refine one_ (i := 7) (N := some 66) (bA 11 767) rfl rfl (one_of HT_.out (by kernel_rfl)) (by decide) (fun K hK => ?_)
       refine Kd.R_append_rows_step (Kd.int .u8) (w0 := w) w.heap.size (by rfl) (.tmp 63) (.tmp 65) 22 5 (.int .u8 0) 1 rfl Try.underlying22 info5 rfl (by decide) (by omega) v344 y343 t334 _ _ _ (fun k_ => some k_ ≠ (.slice Ao33 t327.length co33 : Value).ownBlock ∧ some k_ ≠ (.slice Ao43 t334.length co43 : Value).ownBlock) (fun _ => False) rfl rfl ?aO ?aR (fun _ _ h => h) (fun _ h => h.elim) ?aF ?aB ?aS ?aL ?_
       (case aR => repeat (first | exact (Kd.R_reads' HO336.out).2.2 | (with_reducible refine Kd.C_alloc ?_ _) | (with_reducible refine Kd.C_drewN ?_ _) | (with_reducible refine Kd.C_drew ?_)))
       (case aB => exact (hb7 HB GE315 GE316 GE317 GE324 GE331 GE338 GE349))
       (case aF => exact (fun k_ hk => ⟨Kd.fresh' (Kd.R_lt (rkx HO329)) k_ hk, Kd.fresh' (Kd.R_lt (rkx HO336)) k_ hk⟩))
       (case aO => exact (by refine rkt ?_; exact Kd.R_mono HO345.out (fun _ hk => ⟨hk.1.2, hk.2⟩)))
       (case aS => exact (below_size (hb7 HB GE315 GE316 GE317 GE324 GE331 GE338 GE349)))
       (case aL => have := LMc10.out; omega)
       intro v347 w51 ho hb hg hat
       rw [← Ny346.out] at ho
       have n0_ := Aside0.mk (blk_grown (g := gb315) (o := .cells #[.int .i64 a0_0, .int .i64 a0_1, .slice A0_2 l0_2.length c0_2] 33 (0, 0)) (bkx BK315) hg (Kd.R_ne HO345.out BK315.out (by decide)))
       have n1_ := Aside0.mk (blk_grown (g := gb316) (o := .cells #[.int .i64 a1_0, .int .i64 a1_1, .int .i64 a1_2, .int .u32 a1_3] 38 (0, 0)) (bkx BK316) hg (Kd.R_ne HO345.out BK316.out (by decide)))
       have n2_ := Aside0.mk (blk_grown (g := gb317) (o := .cells #[.int .i64 0, .int .i64 0, .slice none 0 0] 24 (0, 0)) (bkx BK317) hg (Kd.R_ne HO345.out BK317.out (by decide)))
       have n3_ := Aside0.mk (Kd.R_over' (rkx HO322) (Kd.R_typed (rkx HO345)) (by decide) hg)
       have n4_ := Aside0.mk (blk_grown (g := gb324) (o := .cells #[.int .i64 t318, .int .i64 t319, .slice Ao25 t320.length co25] 33 (0, 0)) (bkx BK324) hg (Kd.R_ne HO345.out BK324.out (by decide)))
       have n5_ := Aside0.mk (Kd.R_after (ok := (fun k_ => some k_ ≠ (.slice Ao43 t334.length co43 : Value).ownBlock)) (by refine rkt ?_; exact Kd.R_mono HO329.out (fun _ hk => ⟨hk.1.2, hk.2⟩)) hg hat)
       have n6_ := Aside0.mk (blk_grown (g := gb331) (o := .cells #[.int .i64 t325, .int .i64 t326, .slice Ao33 t327.length co33] 24 (0, 0)) (bkx BK331) hg (Kd.R_ne HO345.out BK331.out (by decide)))
       have n7_ := Aside0.mk (Kd.R_after (ok := (fun k_ => some k_ ≠ (.slice Ao33 t327.length co33 : Value).ownBlock)) (by refine rkt ?_; exact Kd.R_mono HO336.out (fun _ hk => ⟨hk.1.2, hk.2⟩)) hg hat)
       have n8_ := Aside0.mk (blk_grown (g := gb338) (o := .cells #[.int .i64 t332, .int .i64 t333, .slice Ao43 t334.length co43] 24 (0, 0)) (bkx BK338) hg (Kd.R_ne HO345.out BK338.out (by decide)))
       have n9_ := Aside0.mk (Kd.R_over' (rkx HO342) (Kd.R_typed (rkx HO345)) (by decide) hg)
       have n10_ := Aside0.mk (blk_grown (g := gb349) (o := .cells #[.int .i64 0, .int .i64 0, .slice none 0 0] 24 (0, 0)) (bkx BK349) hg (Kd.R_ne HO345.out BK349.out (by decide)))
       have n11_ := Aside0.mk (hb)
       have n12_ := Aside0.mk (ho)
       clear BK315
       clear BK316
       clear BK317
       clear HO322
       clear BK324
       clear HO329
       clear BK331
       clear HO336
       clear BK338
       clear HO342
       clear BK349
       clear HB
       clear HO345
       have BK315 := n0_
       have BK316 := n1_
       have BK317 := n2_
       have HO322 := n3_
       have BK324 := n4_
       have HO329 := n5_
       have BK331 := n6_
       have HO336 := n7_
       have BK338 := n8_
       have HO342 := n9_
       have BK349 := n10_
       have HB := n11_
       have HO348 := n12_
       clear n0_ n1_ n2_ n3_ n4_ n5_ n6_ n7_ n8_ n9_ n10_ n11_ n12_
       clear ho hb hg hat
       obtain ⟨Ao52, co52, eo52⟩ := Kd.R_slice HO348.out
       (first | subst eo52 | (injection eo52 with f1_ f2_ f3_; have f4_ := f1_.symm; have f5_ := f3_.symm; clear f1_ f2_ f3_; subst f4_; subst f5_))
       refine hK.out _ _ ⟨(blk_cell BK338.out 0).trans rfl, (blk_cell BK338.out 1).trans rfl, (blk_cell BK338.out 2).trans rfl⟩ (fun hHeld => ?_)
       clear hK K
       refine norm_ (a' := ?_) ?_ ?_
       rotate_left
       ·show Act.put _ (some 66) _ = _
        simp only [Act.put, List.setIfInBounds_toArray, List.set_cons_zero, List.set_cons_succ, i64_w, i32_w]
        rfl
       refine pt HT_ 8 67 ?_
       exact norm_ (by simp only [putAll, Act.put, List.setIfInBounds_toArray, List.set_cons_zero, List.set_cons_succ]) (hCont (v344, .slice Ao52 y346.length co52, gb349) _ ⟨hHeld, (rkx HO322), (rkx HO329), (rkx HO336), (rkx HO342), (rkx HO348), (bkx BK315), (bkx BK316), (bkx BK317), (bkx BK324), (bkx BK331), (bkx BK338), (bkx BK349), GW349.out, GE349.out, NB315_349.out, NB349_315.out, NB316_349.out, NB349_316.out, NB317_349.out, NB349_317.out, NB324_349.out, NB349_324.out, NB331_349.out, NB349_331.out, NB338_349.out, NB349_338.out, (hb7 HB GE315 GE316 GE317 GE324 GE331 GE338 GE349)⟩)
     rintro ⟨v344, v347, gb349⟩ w53 ⟨hS_, h0_, h1_, h2_, h3_, h4_, h5_, h6_, h7_, h8_, h9_, h10_, h11_, h12_, h13_, h14_, h15_, h16_, h17_, h18_, h19_, h20_, h21_, h22_, h23_, h24_, h25_, h26_⟩
     have n0_ : Aside0 (Kd.R Kd.bool 4 w53 w.heap.size (fun _ => True) (.slice Ao25 t320.length co25) t320) := ⟨h0_⟩
     have n1_ : Aside0 (Kd.R (Kd.int .u8) 5 w53 w.heap.size (fun k_ => some k_ ≠ (.slice Ao43 t334.length co43 : Value).ownBlock ∧ some k_ ≠ (v347 : Value).ownBlock) (.slice Ao33 t327.length co33) t327) := ⟨h1_⟩
     have n2_ : Aside0 (Kd.R (Kd.int .u8) 5 w53 w.heap.size (fun k_ => some k_ ≠ (.slice Ao33 t327.length co33 : Value).ownBlock ∧ some k_ ≠ (v347 : Value).ownBlock) (.slice Ao43 t334.length co43) t334) := ⟨h2_⟩
     have n3_ : Aside0 (Kd.R (Kd.int .i64) 3 w53 w.heap.size (fun _ => True) v341 t339) := ⟨h3_⟩
     have n4_ : Aside0 (Kd.R (Kd.int .u8) 5 w53 w.heap.size (fun k_ => some k_ ≠ (.slice Ao33 t327.length co33 : Value).ownBlock ∧ some k_ ≠ (.slice Ao43 t334.length co43 : Value).ownBlock) v347 y346) := ⟨h4_⟩
     have n5_ : Aside0 (w53.heap[gb315]? = some (.cells #[.int .i64 a0_0, .int .i64 a0_1, .slice A0_2 l0_2.length c0_2] 33 (0, 0))) := ⟨h5_⟩
     have n6_ : Aside0 (w53.heap[gb316]? = some (.cells #[.int .i64 a1_0, .int .i64 a1_1, .int .i64 a1_2, .int .u32 a1_3] 38 (0, 0))) := ⟨h6_⟩
     have n7_ : Aside0 (w53.heap[gb317]? = some (.cells #[.int .i64 0, .int .i64 0, .slice none 0 0] 24 (0, 0))) := ⟨h7_⟩
     have n8_ : Aside0 (w53.heap[gb324]? = some (.cells #[.int .i64 t318, .int .i64 t319, .slice Ao25 t320.length co25] 33 (0, 0))) := ⟨h8_⟩
     have n9_ : Aside0 (w53.heap[gb331]? = some (.cells #[.int .i64 t325, .int .i64 t326, .slice Ao33 t327.length co33] 24 (0, 0))) := ⟨h9_⟩
     have n10_ : Aside0 (w53.heap[gb338]? = some (.cells #[.int .i64 t332, .int .i64 t333, .slice Ao43 t334.length co43] 24 (0, 0))) := ⟨h10_⟩
     have n11_ : Aside0 (w53.heap[gb349]? = some (.cells #[.int .i64 0, .int .i64 0, .slice none 0 0] 24 (0, 0))) := ⟨h11_⟩
     have n12_ : Aside0 (w.heap.size ≤ gb349) := ⟨h12_⟩
     have n13_ : Aside0 (w.heap.size ≤ gb349) := ⟨h13_⟩
     have n14_ : Aside0 (gb315 ≠ gb349) := ⟨h14_⟩
     have n15_ : Aside0 (gb349 ≠ gb315) := ⟨h15_⟩
     have n16_ : Aside0 (gb316 ≠ gb349) := ⟨h16_⟩
     have n17_ : Aside0 (gb349 ≠ gb316) := ⟨h17_⟩
     have n18_ : Aside0 (gb317 ≠ gb349) := ⟨h18_⟩
     have n19_ : Aside0 (gb349 ≠ gb317) := ⟨h19_⟩
     have n20_ : Aside0 (gb324 ≠ gb349) := ⟨h20_⟩
     have n21_ : Aside0 (gb349 ≠ gb324) := ⟨h21_⟩
     have n22_ : Aside0 (gb331 ≠ gb349) := ⟨h22_⟩
     have n23_ : Aside0 (gb349 ≠ gb331) := ⟨h23_⟩
     have n24_ : Aside0 (gb338 ≠ gb349) := ⟨h24_⟩
     have n25_ : Aside0 (gb349 ≠ gb338) := ⟨h25_⟩
     have n26_ : Aside0 (Below w.heap.size w w53) := ⟨h26_⟩
     clear HO322
     clear HO329
     clear HO336
     clear HO342
     clear BK315
     clear BK316
     clear BK317
     clear BK324
     clear BK331
     clear BK338
     clear HB
     clear h0_ h1_ h2_ h3_ h4_ h5_ h6_ h7_ h8_ h9_ h10_ h11_ h12_ h13_ h14_ h15_ h16_ h17_ h18_ h19_ h20_ h21_ h22_ h23_ h24_ h25_ h26_
     have HO322 := n0_
     have HO329 := n1_
     have HO336 := n2_
     have HO342 := n3_
     have HO348 := n4_
     have BK315 := n5_
     have BK316 := n6_
     have BK317 := n7_
     have BK324 := n8_
     have BK331 := n9_
     have BK338 := n10_
     have BK349 := n11_
     have GW349 := n12_
     have GE349 := n13_
     have NB315_349 := n14_
     have NB349_315 := n15_
     have NB316_349 := n16_
     have NB349_316 := n17_
     have NB317_349 := n18_
     have NB349_317 := n19_
     have NB324_349 := n20_
     have NB349_324 := n21_
     have NB331_349 := n22_
     have NB349_331 := n23_
     have NB338_349 := n24_
     have NB349_338 := n25_
     have HB := n26_
     clear n0_ n1_ n2_ n3_ n4_ n5_ n6_ n7_ n8_ n9_ n10_ n11_ n12_ n13_ n14_ n15_ n16_ n17_ n18_ n19_ n20_ n21_ n22_ n23_ n24_ n25_ n26_
     have hHeld : w53.cell? ⟨gb338, 0, none⟩ = some (.int .i64 t332) ∧ w53.cell? ⟨gb338, 1, none⟩ = some (.int .i64 t333) ∧ w53.cell? ⟨gb338, 2, none⟩ = some (.slice Ao43 t334.length co43) := hS_
     obtain ⟨Ao54, co54, eo54⟩ := Kd.R_slice HO348.out
     (first | subst eo54 | (injection eo54 with f1_ f2_ f3_; have f4_ := f1_.symm; have f5_ := f3_.symm; clear f1_ f2_ f3_; subst f4_; subst f5_))
     refine norm_ (a' := ?_) ?_ ?_
     rotate_left
     ·simp only [putAll, Act.put, List.setIfInBounds_toArray, List.set_cons_zero, List.set_cons_succ]
      rfl
     refine one_ (i := 10) (N := none) (bA 11 2047) rfl rfl (one_of HT_.out (by kernel_rfl)) (by decide) (fun K hK => ?_)
     have hs55 : w53.cell? ⟨gb349, 0, none⟩ = some (.int .i64 0) := (blk_cell BK349.out 0).trans rfl
     have hfs55 := blk_frozen BK349.out 0
     have hns55_0 := NB315_349.out
     have hns55_1 := NB316_349.out
     have hns55_2 := NB317_349.out
     have hns55_3 := NB324_349.out
     have hns55_4 := NB331_349.out
     have hns55_5 := NB338_349.out
     have hms55_0 := NB349_315.out
     have hms55_1 := NB349_316.out
     have hms55_2 := NB349_317.out
     have hms55_3 := NB349_324.out
     have hms55_4 := NB349_331.out
     have hms55_5 := NB349_338.out
     have hs56 : w53.cell? ⟨gb349, 1, none⟩ = some (.int .i64 0) := (blk_cell BK349.out 1).trans rfl
     have hfs56 := blk_frozen BK349.out 1
     have hns56_0 := NB315_349.out
     have hns56_1 := NB316_349.out
     have hns56_2 := NB317_349.out
     have hns56_3 := NB324_349.out
     have hns56_4 := NB331_349.out
     have hns56_5 := NB338_349.out
     have hms56_0 := NB349_315.out
     have hms56_1 := NB349_316.out
     have hms56_2 := NB349_317.out
     have hms56_3 := NB349_324.out
     have hms56_4 := NB349_331.out
     have hms56_5 := NB349_338.out
     have hs57 : w53.cell? ⟨gb349, 2, none⟩ = some (.slice none 0 0) := (blk_cell BK349.out 2).trans rfl
     have hfs57 := blk_frozen BK349.out 2
     have hns57_0 := NB315_349.out
     have hns57_1 := NB316_349.out
     have hns57_2 := NB317_349.out
     have hns57_3 := NB324_349.out
     have hns57_4 := NB331_349.out
     have hns57_5 := NB338_349.out
     have hms57_0 := NB349_315.out
     have hms57_1 := NB349_316.out
     have hms57_2 := NB349_317.out
     have hms57_3 := NB349_324.out
     have hms57_4 := NB349_331.out
     have hms57_5 := NB349_338.out
     refine skip_ (w1 := ?_) (by rfl) rfl ?_ ?_
     rotate_left
     ·go_simp
      rfl
     refine hK.out _ _ ⟨((cell_far (p := ⟨gb349, _, none⟩) NB338_349.out _).trans (((cell_far (p := ⟨gb349, _, none⟩) NB338_349.out _).trans (((cell_far (p := ⟨gb349, _, none⟩) NB338_349.out _).trans (hHeld.1)))))), ((cell_far (p := ⟨gb349, _, none⟩) NB338_349.out _).trans (((cell_far (p := ⟨gb349, _, none⟩) NB338_349.out _).trans (((cell_far (p := ⟨gb349, _, none⟩) NB338_349.out _).trans (hHeld.2.1)))))), ((cell_far (p := ⟨gb349, _, none⟩) NB338_349.out _).trans (((cell_far (p := ⟨gb349, _, none⟩) NB338_349.out _).trans (((cell_far (p := ⟨gb349, _, none⟩) NB338_349.out _).trans (hHeld.2.2))))))⟩ (fun hHeld => ?_)
     clear hK K
     refine done_ (done_of HT_.out (by kernel_rfl)) ?_
     try go_wp2
     go_loopg [15] k (fun kq v15 w' => ∃ (x15_1 : Int) (x332002_1 : List Int) (x339002_1 : List Int) (x350002_1 : List Int) (u332002 : Value) (u339002 : Value) (u350002 : Value), v15 = .int .i64 x15_1 ∧ Aside0 (barscanref43_Print.l0 kq t339 x15_1 t332 t333 x350002_1 = some (r1, r2, r3, r4)) ∧ Aside0 (kq ≤ k) ∧ Aside0 (Kd.R (Kd.int .i64) 3 w' w.heap.size (fun _ => True) v341 t339) ∧ Aside0 (Kd.R Kd.bool 4 w' w.heap.size (fun _ => True) (.slice Ao25 t320.length co25) t320) ∧ Aside0 (Kd.R (Kd.int .u8) 5 w' w.heap.size (fun k_ => some k_ ≠ (u339002 : Value).ownBlock ∧ some k_ ≠ (u350002 : Value).ownBlock) u332002 x332002_1) ∧ Aside0 (Kd.R (Kd.int .u8) 5 w' w.heap.size (fun k_ => some k_ ≠ (u332002 : Value).ownBlock ∧ some k_ ≠ (u350002 : Value).ownBlock) u339002 x339002_1) ∧ Aside0 (Kd.R (Kd.int .u8) 5 w' w.heap.size (fun k_ => some k_ ≠ (u332002 : Value).ownBlock ∧ some k_ ≠ (u339002 : Value).ownBlock) u350002 x350002_1) ∧ Aside0 (w'.heap[gb315]? = some (.cells #[.int .i64 a0_0, .int .i64 a0_1, (.slice A0_2 l0_2.length c0_2)] 33 (0, 0))) ∧ Aside0 (w'.heap[gb316]? = some (.cells #[.int .i64 a1_0, .int .i64 a1_1, .int .i64 a1_2, .int .u32 a1_3] 38 (0, 0))) ∧ Aside0 (w'.heap[gb317]? = some (.cells #[.int .i64 0, .int .i64 0, (.slice none 0 0)] 24 (0, 0))) ∧ Aside0 (w'.heap[gb324]? = some (.cells #[.int .i64 t318, .int .i64 t319, (.slice Ao25 t320.length co25)] 33 (0, 0))) ∧ Aside0 (w'.heap[gb331]? = some (.cells #[.int .i64 t325, .int .i64 t326, u332002] 24 (0, 0))) ∧ Aside0 (w'.heap[gb338]? = some (.cells #[.int .i64 t332, .int .i64 t333, u339002] 24 (0, 0))) ∧ Aside0 (w'.heap[gb349]? = some (.cells #[.int .i64 t332, .int .i64 t333, u350002] 24 (0, 0))) ∧ Aside0 (Below w.heap.size w w'))
     case atStart => exact ⟨(0), (t327), (t334), (y346), (.slice Ao33 t327.length co33), (.slice Ao43 t334.length co43), (.slice Ao54 y346.length co54), (by first | rfl | (simp; done) | (simp [*]; done)), H', ⟨Nat.le_refl _⟩, ⟨by refine rkt ?_; exact Kd.R_mono (Kd.R_far (p := ⟨gb349, 2, none⟩) (Kd.R_far (p := ⟨gb349, 1, none⟩) (Kd.R_far (p := ⟨gb349, 0, none⟩) (Kd.R_types HO342.out BK349.out (by decide)) (fun _ hk => hk.2) (.int .i64 t332)) (fun _ hk => hk.2) (.int .i64 t333)) (fun _ hk => hk.2) (.slice Ao54 y346.length co54)) (fun _ hk => trivial)⟩, ⟨by refine rkt ?_; exact Kd.R_mono (Kd.R_far (p := ⟨gb349, 2, none⟩) (Kd.R_far (p := ⟨gb349, 1, none⟩) (Kd.R_far (p := ⟨gb349, 0, none⟩) (Kd.R_types HO322.out BK349.out (by decide)) (fun _ hk => hk.2) (.int .i64 t332)) (fun _ hk => hk.2) (.int .i64 t333)) (fun _ hk => hk.2) (.slice Ao54 y346.length co54)) (fun _ hk => trivial)⟩, ⟨by refine rkt ?_; exact Kd.R_mono (Kd.R_far (p := ⟨gb349, 2, none⟩) (Kd.R_far (p := ⟨gb349, 1, none⟩) (Kd.R_far (p := ⟨gb349, 0, none⟩) (Kd.R_types HO329.out BK349.out (by decide)) (fun _ hk => hk.2) (.int .i64 t332)) (fun _ hk => hk.2) (.int .i64 t333)) (fun _ hk => hk.2) (.slice Ao54 y346.length co54)) (fun _ hk => ⟨hk.1.1, hk.1.2⟩)⟩, ⟨by refine rkt ?_; exact Kd.R_mono (Kd.R_far (p := ⟨gb349, 2, none⟩) (Kd.R_far (p := ⟨gb349, 1, none⟩) (Kd.R_far (p := ⟨gb349, 0, none⟩) (Kd.R_types HO336.out BK349.out (by decide)) (fun _ hk => hk.2) (.int .i64 t332)) (fun _ hk => hk.2) (.int .i64 t333)) (fun _ hk => hk.2) (.slice Ao54 y346.length co54)) (fun _ hk => ⟨hk.1.1, hk.1.2⟩)⟩, ⟨by refine rkt ?_; exact Kd.R_mono (Kd.R_far (p := ⟨gb349, 2, none⟩) (Kd.R_far (p := ⟨gb349, 1, none⟩) (Kd.R_far (p := ⟨gb349, 0, none⟩) (Kd.R_types HO348.out BK349.out (by decide)) (fun _ hk => hk.2) (.int .i64 t332)) (fun _ hk => hk.2) (.int .i64 t333)) (fun _ hk => hk.2) (.slice Ao54 y346.length co54)) (fun _ hk => ⟨hk.1.1, hk.1.2⟩)⟩, ⟨bky BK315 NB315_349⟩, ⟨bky BK316 NB316_349⟩, ⟨bky BK317 NB317_349⟩, ⟨bky BK324 NB324_349⟩, ⟨bky BK331 NB331_349⟩, ⟨bky BK338 NB338_349⟩, ⟨by refine bkt ?_; refine blk_put (cs := #[.int .i64 t332, .int .i64 t333, .slice none 0 0]) ?_ 2 _ rfl; refine bkt ?_; refine blk_put (cs := #[.int .i64 t332, .int .i64 0, .slice none 0 0]) ?_ 1 _ rfl; refine bkt ?_; refine blk_put (cs := #[.int .i64 0, .int .i64 0, .slice none 0 0]) ?_ 0 _ rfl; refine bkt ?_; exact BK349.out⟩, ⟨hb7 HB GE315 GE316 GE317 GE324 GE331 GE338 GE349⟩⟩
     case round =>
      clear H'
      try clear c1
      try clear p2
      try clear c10
      obtain ⟨x15_1, x332002_1, x339002_1, x350002_1, u332002, u339002, u350002, rfl, HA, HK1, HO_12, HO_325002, HO_332002, HO_339002, HO_350002, BK315, BK316, BK317, BK324, BK331, BK338, BK349, HB⟩ := hrel
      cases gk with
      | zero => exact absurd HA.out (by simp [barscanref43_Print.l0])
      | succ k1 =>
       have H := HA.out
       clear HA
       simp only [barscanref43_Print.l0] at H
       by_cases c58 : x15_1 < (t339.length : Int)
       ·rw [if_pos c58] at H
        have c58b0 : decide (x15_1 < (t339.length : Int)) = true := decide_eq_true c58
        clear c58
        by_cases c59 : 0 ≤ x15_1
        ·rw [if_pos c59] at H
         have c59b0 : decide (0 ≤ x15_1) = true := decide_eq_true c59
         clear c59
         by_cases c60 : 0 ≤ (rd t339 x15_1)
         ·rw [if_pos c60] at H
          have c60b0 : decide (0 ≤ (rd t339 x15_1)) = true := decide_eq_true c60
          clear c60
          by_cases c61 : (rd t339 x15_1) < (x350002_1.length : Int)
          ·rw [if_pos c61] at H
           have c61b0 : decide ((rd t339 x15_1) < (x350002_1.length : Int)) = true := decide_eq_true c61
           clear c61
           obtain ⟨y353, hy353⟩ : ∃ y_ : List Int, y_ = (x350002_1.set ((rd t339 x15_1) : Int).toNat ((255 - (rd x350002_1 (rd t339 x15_1))) % 256)) := ⟨_, rfl⟩
           replace H : (barscanref43_Print.l0 k1 t339 (wrap64 (x15_1 + 1)) t332 t333 y353) = some (r1, r2, r3, r4) := by first | (rw [hy353]; with_reducible exact H) | (have H2_ := (Option.bind_some _ _).symm.trans H; rw [hy353]; with_reducible exact H2_) | (have H2_ := (Option.bind_some _ _).symm.trans H; with_reducible exact H2_) | with_reducible exact H | (rw [hy353]; exact H) | exact H
           have Ny353 := Aside0.mk hy353
           clear hy353
           have H' := Aside0.mk H
           clear H
           obtain ⟨Ao63, co63, eo63⟩ := Kd.R_slice HO_12.out
           subst eo63
           try go_wp2
           have n0_ := Aside0.mk (Kd.R_drew HO_12.out)
           have n1_ := Aside0.mk (Kd.R_drew HO_325002.out)
           have n2_ := Aside0.mk (Kd.R_drew HO_332002.out)
           have n3_ := Aside0.mk (Kd.R_drew HO_339002.out)
           have n4_ := Aside0.mk (Kd.R_drew HO_350002.out)
           have n5_ := Aside0.mk (blk_drew BK315.out)
           have n6_ := Aside0.mk (blk_drew BK316.out)
           have n7_ := Aside0.mk (blk_drew BK317.out)
           have n8_ := Aside0.mk (blk_drew BK324.out)
           have n9_ := Aside0.mk (blk_drew BK331.out)
           have n10_ := Aside0.mk (blk_drew BK338.out)
           have n11_ := Aside0.mk (blk_drew BK349.out)
           have n12_ := Aside0.mk (below_drew1 HB.out)
           clear HO_12
           clear HO_325002
           clear HO_332002
           clear HO_339002
           clear HO_350002
           clear BK315
           clear BK316
           clear BK317
           clear BK324
           clear BK331
           clear BK338
           clear BK349
           clear HB
           have HO_12 := n0_
           have HO_325002 := n1_
           have HO_332002 := n2_
           have HO_339002 := n3_
           have HO_350002 := n4_
           have BK315 := n5_
           have BK316 := n6_
           have BK317 := n7_
           have BK324 := n8_
           have BK331 := n9_
           have BK338 := n10_
           have BK349 := n11_
           have HB := n12_
           clear n0_ n1_ n2_ n3_ n4_ n5_ n6_ n7_ n8_ n9_ n10_ n11_ n12_
           have p350 : 0 ≤ (x15_1 : Int) := of_decide_eq_true (by first | (with_reducible assumption) | assumption)
           have q350 : x15_1 < (t339.length : Int) := of_decide_eq_true (by first | (with_reducible assumption) | assumption)
           obtain ⟨ad350, e350, hx350_0⟩ := Kd.at_int (Kd.R_reads' HO_12.out).2.2 x15_1 p350 q350
           cases e350
           replace p350 := eq_true p350
           replace q350 := eq_true q350
           have p351 : 0 ≤ (x15_1 : Int) := of_decide_eq_true (by first | (with_reducible assumption) | assumption)
           have q351 : x15_1 < (t339.length : Int) := of_decide_eq_true (by first | (with_reducible assumption) | assumption)
           obtain ⟨ad351, e351, hx351_0⟩ := Kd.at_int (Kd.R_reads' HO_12.out).2.2 x15_1 p351 q351
           obtain rfl : ad350 = ad351 := (by injection e351)
           replace p351 := eq_true p351
           replace q351 := eq_true q351
           obtain ⟨Ao65, co65, eo65⟩ := Kd.R_slice HO_350002.out
           (first | subst eo65 | (injection eo65 with f1_ f2_ f3_; have f4_ := f1_.symm; have f5_ := f3_.symm; clear f1_ f2_ f3_; subst f4_; subst f5_))
           have p352 : 0 ≤ ((rd t339 x15_1) : Int) := of_decide_eq_true (by first | (with_reducible assumption) | assumption)
           have q352 : (rd t339 x15_1) < (x350002_1.length : Int) := of_decide_eq_true (by first | (with_reducible assumption) | assumption)
           obtain ⟨ad352, e352, hx352_0⟩ := Kd.at_int (Kd.R_reads' HO_350002.out).2.2 (rd t339 x15_1) p352 q352
           cases e352
           replace p352 := eq_true p352
           replace q352 := eq_true q352
           have p62 : 0 ≤ ((rd t339 x15_1) : Int) := of_decide_eq_true (by first | (with_reducible assumption) | assumption)
           have q62 : ((rd t339 x15_1) : Int) < ((x350002_1.length : Int) : Int) := of_decide_eq_true (by first | (with_reducible assumption) | assumption)
           obtain ⟨go62, co62, eo62, gb62, gl62, cl62, HG62⟩ := Kd.R_form HO_350002.out (by omega)
           (first | cases eo62 | (injection eo62 with ea_ en_ ec_; (first | subst ea_ | (injection ea_ with ea_; subst ea_)); subst ec_; clear en_))
           have GB62 := Aside0.mk gb62
           have GG62 := Aside0.mk HG62
           clear gb62 gl62 HG62
           (first | simp only [add_plain] at hx352_0 | skip)
           obtain ⟨hx62_0, hf62_0⟩ := Kd.R_celln 0 HO_350002.out ((rd t339 x15_1) : Int) p62 q62
           replace p62 := eq_true p62
           replace q62 := eq_true q62
           have HP66 := Kd.R_putn HO_350002.out ((rd t339 x15_1) : Int) ((255 - (rd x350002_1 (rd t339 x15_1))) % 256)
           rw [← Ny353.out] at HP66
           have HQ66 := Aside0.mk HP66
           clear HP66
           refine start_ (n := 17) (S := fun w' => w'.cell? ⟨gb349, 0, none⟩ = some (.int .i64 t332) ∧ w'.cell? ⟨gb349, 1, none⟩ = some (.int .i64 t333) ∧ w'.cell? ⟨gb349, 2, none⟩ = some (.slice (some ⟨go62, 0, none⟩) x350002_1.length co65) ∧ w'.cell? (ad350.add (x15_1).toNat) = some (.int .i64 (rd t339 x15_1)) ∧ w'.cell? (ad350.add (x15_1).toNat) = some (.int .i64 (rd t339 x15_1)) ∧ w'.cell? ⟨go62, ((rd t339 x15_1)).toNat, none⟩ = some (.int .u8 (rd x350002_1 (rd t339 x15_1)))) (ds := [16]) (bA 17 0) (by kernel_rfl) rfl rfl ⟨(blk_cell BK349.out 0).trans rfl, (blk_cell BK349.out 1).trans rfl, (blk_cell BK349.out 2).trans rfl, hx350_0, hx351_0, hx352_0⟩ (fun hHeld => ?_); refine with_tabW barscanref43_Print.tab15 barscanref43_Print.bits15 (fun HT_ HW_ => ?_)
           generalize wr.drew = w64 at HO_12 HO_325002 HO_332002 HO_339002 HO_350002 BK315 BK316 BK317 BK324 BK331 BK338 BK349 HB GG62 HQ66 hf62_0 hx350_0 hx351_0 hx352_0 hx62_0 hHeld ⊢
           refine pt HT_ 0 74 ?_
           refine pt HT_ 2 76 ?_
           refine pt HT_ 3 77 ?_
           refine pt HT_ 4 78 ?_
           refine pt HT_ 6 80 ?_
           refine pt HT_ 8 82 ?_
           refine pt HT_ 9 83 ?_
           refine pt HT_ 10 84 ?_
           refine tk HT_ HW_ hHeld 1 75 ?_
           refine tk HT_ HW_ hHeld 5 79 ?_
           refine tk HT_ HW_ hHeld 7 81 ?_
           refine tk HT_ HW_ hHeld 11 85 ?_
           refine pt HT_ 12 86 ?_
           refine tk HT_ HW_ hHeld 13 87 ?_
           refine pt HT_ 14 88 ?_
           refine pt HT_ 15 89 ?_
           refine last_ (i := 16) (N := none) (bA 17 131071) rfl rfl (one_of HT_.out (by kernel_rfl)) (by decide) (fun K hK => ?_)
           refine skip_ (w1 := ?_) (by rfl) rfl ?_ ?_
           rotate_left
           ·go_simp
            rfl
           refine hK.out _ _ ?_
           clear hK K
           refine done_ (done_of HT_.out (by kernel_rfl)) ?_
           try go_wp2
           go_roundg k1
           case measure => have := HK1.out; omega
           case rel => exact ⟨(wrap64 (x15_1 + 1)), (x332002_1), (x339002_1), (y353), (u332002), (u339002), (.slice (some ⟨go62, 0, none⟩) x350002_1.length co65), (by first | rfl | (simp; done) | (simp [*]; done)), H', ⟨by have := HK1.out; omega⟩, ⟨by refine rkt ?_; exact Kd.R_mono (Kd.R_far (p := ⟨go62, ((rd t339 x15_1) : Int).toNat, none⟩) (Kd.R_types HO_12.out GG62.out (by decide)) (fun _ hk => hk.2) (.int .u8 ((255 - (rd x350002_1 (rd t339 x15_1))) % 256))) (fun _ hk => trivial)⟩, ⟨by refine rkt ?_; exact Kd.R_mono (Kd.R_far (p := ⟨go62, ((rd t339 x15_1) : Int).toNat, none⟩) (Kd.R_types HO_325002.out GG62.out (by decide)) (fun _ hk => hk.2) (.int .u8 ((255 - (rd x350002_1 (rd t339 x15_1))) % 256))) (fun _ hk => trivial)⟩, ⟨by refine rkt ?_; exact Kd.R_mono (Kd.R_far (p := ⟨go62, ((rd t339 x15_1) : Int).toNat, none⟩) (Kd.R_mono HO_332002.out (fun k_ hk => (⟨hk, fun e_ => hk.2 (by rw [e_]; rfl)⟩ : _ ∧ k_ ≠ go62))) (fun _ hk => hk.2) (.int .u8 ((255 - (rd x350002_1 (rd t339 x15_1))) % 256))) (fun _ hk => ⟨hk.1.1, hk.1.2⟩)⟩, ⟨by refine rkt ?_; exact Kd.R_mono (Kd.R_far (p := ⟨go62, ((rd t339 x15_1) : Int).toNat, none⟩) (Kd.R_mono HO_339002.out (fun k_ hk => (⟨hk, fun e_ => hk.2 (by rw [e_]; rfl)⟩ : _ ∧ k_ ≠ go62))) (fun _ hk => hk.2) (.int .u8 ((255 - (rd x350002_1 (rd t339 x15_1))) % 256))) (fun _ hk => ⟨hk.1.1, hk.1.2⟩)⟩, ⟨rkx HQ66⟩, ⟨by refine bkt ?_; refine blk_far ?_ (by have h_ := Kd.R_ne HO_350002.out BK315.out (by decide); intro e_; exact h_ (by rw [e_]; rfl)) _; refine bkt ?_; exact BK315.out⟩, ⟨by refine bkt ?_; refine blk_far ?_ (by have h_ := Kd.R_ne HO_350002.out BK316.out (by decide); intro e_; exact h_ (by rw [e_]; rfl)) _; refine bkt ?_; exact BK316.out⟩, ⟨by refine bkt ?_; refine blk_far ?_ (by have h_ := Kd.R_ne HO_350002.out BK317.out (by decide); intro e_; exact h_ (by rw [e_]; rfl)) _; refine bkt ?_; exact BK317.out⟩, ⟨by refine bkt ?_; refine blk_far ?_ (by have h_ := Kd.R_ne HO_350002.out BK324.out (by decide); intro e_; exact h_ (by rw [e_]; rfl)) _; refine bkt ?_; exact BK324.out⟩, ⟨by refine bkt ?_; refine blk_far ?_ (by have h_ := Kd.R_ne HO_350002.out BK331.out (by decide); intro e_; exact h_ (by rw [e_]; rfl)) _; refine bkt ?_; exact BK331.out⟩, ⟨by refine bkt ?_; refine blk_far ?_ (by have h_ := Kd.R_ne HO_350002.out BK338.out (by decide); intro e_; exact h_ (by rw [e_]; rfl)) _; refine bkt ?_; exact BK338.out⟩, ⟨by refine bkt ?_; refine blk_far ?_ (by have h_ := Kd.R_ne HO_350002.out BK349.out (by decide); intro e_; exact h_ (by rw [e_]; rfl)) _; refine bkt ?_; exact BK349.out⟩, ⟨hb8 HB GB62 GE315 GE316 GE317 GE324 GE331 GE338 GE349⟩⟩
          ·rw [if_neg c61] at H
           exact absurd H (by simp)
         ·rw [if_neg c60] at H
          exact absurd H (by simp)
        ·rw [if_neg c59] at H
         exact absurd H (by simp)
       ·rw [if_neg c58] at H
        have c58b0 : decide (x15_1 < (t339.length : Int)) = false := decide_eq_false c58
        clear c58
        simp only [Option.some.injEq, Prod.mk.injEq] at H
        obtain ⟨rfl, rfl, rfl, rfl⟩ := H
        obtain ⟨Ao67, co67, eo67⟩ := Kd.R_slice HO_12.out
        subst eo67
        have hnb68 := NB349_315.out
        have hnc68 := NB315_349.out
        have hnb69 := NB349_316.out
        have hnc69 := NB316_349.out
        have hnb70 := NB349_317.out
        have hnc70 := NB317_349.out
        have hnb71 := NB349_324.out
        have hnc71 := NB324_349.out
        have hnb72 := NB349_331.out
        have hnc72 := NB331_349.out
        have hnb73 := NB349_338.out
        have hnc73 := NB338_349.out
        have hcz74_0 : wr.cell? ⟨gb349, 0, none⟩ = some (.int .i64 t332) := (blk_cell BK349.out 0).trans rfl
        have hcz74_1 : wr.cell? ⟨gb349, 1, none⟩ = some (.int .i64 t333) := (blk_cell BK349.out 1).trans rfl
        have hcz74_2 : wr.cell? ⟨gb349, 2, none⟩ = some (u350002) := (blk_cell BK349.out 2).trans rfl
        have hfz74_0 := blk_frozen BK349.out 0
        have hfz74_1 := blk_frozen BK349.out 1
        have hfz74_2 := blk_frozen BK349.out 2
        have hnb75 := NB317_315.out
        have hnc75 := NB315_317.out
        have hnb76 := NB317_316.out
        have hnc76 := NB316_317.out
        have hnb77 := NB317_324.out
        have hnc77 := NB324_317.out
        have hnb78 := NB317_331.out
        have hnc78 := NB331_317.out
        have hnb79 := NB317_338.out
        have hnc79 := NB338_317.out
        have hcz80_0 : wr.cell? ⟨gb317, 0, none⟩ = some (.int .i64 0) := (blk_cell BK317.out 0).trans rfl
        have hcz80_1 : wr.cell? ⟨gb317, 1, none⟩ = some (.int .i64 0) := (blk_cell BK317.out 1).trans rfl
        have hcz80_2 : wr.cell? ⟨gb317, 2, none⟩ = some (.slice none 0 0) := (blk_cell BK317.out 2).trans rfl
        have hfz80_0 := blk_frozen BK317.out 0
        have hfz80_1 := blk_frozen BK317.out 1
        have hfz80_2 := blk_frozen BK317.out 2
        obtain ⟨Ao81, co81, eo81⟩ := Kd.R_slice HO_350002.out
        subst eo81
        go_wp2
        refine bodyPost_ret (results_ct rfl _ _ gb317 24 #[.int .i64 t332, .int .i64 t333, .slice Ao81 x350002_1.length co81] (0, 0) _ rfl (by refine bkt ?_; refine blk_put (cs := #[.int .i64 t332, .int .i64 t333, .slice none 0 0]) ?_ 2 _ rfl; refine bkt ?_; refine blk_put (cs := #[.int .i64 t332, .int .i64 0, .slice none 0 0]) ?_ 1 _ rfl; refine bkt ?_; refine blk_put (cs := #[.int .i64 0, .int .i64 0, .slice none 0 0]) ?_ 0 _ rfl; refine bkt ?_; exact BK317.out) Try.underlying24 rfl (by kernel_rfl)) rfl ?_
        exact ⟨_, by first | rfl | (simp [errW_none, errW_some] <;> rfl) | (simp [*, errW_none, errW_some] <;> rfl), by refine rkt ?_; exact Kd.R_mono (Kd.R_far (p := ⟨gb317, 2, none⟩) (Kd.R_far (p := ⟨gb317, 1, none⟩) (Kd.R_far (p := ⟨gb317, 0, none⟩) (Kd.R_types HO_350002.out BK317.out (by decide)) (fun _ hk => hk.2) (.int .i64 t332)) (fun _ hk => hk.2) (.int .i64 t333)) (fun _ hk => hk.2) (.slice Ao81 x350002_1.length co81)) (fun _ hk => trivial), by repeat (first | (with_reducible first | exact HB.out | apply below_alloc | apply pw_below_drewN | apply below_drew1 | refine below_set ?_ GE315.out | refine below_set ?_ GE316.out | refine below_set ?_ GE317.out | refine below_set ?_ GE324.out | refine below_set ?_ GE331.out | refine below_set ?_ GE338.out | refine below_set ?_ GE349.out) | exact HB.out)⟩
    ·rw [if_neg c10] at H
     exact absurd H (by simp)
   ·rw [if_neg c9] at H
    have c9b0 : (t340 == 0) = false := beq_eq_false_iff_ne.mpr c9
    have c9b1 : (t340 != 0) = true := bne_iff_ne.mpr c9
    simp only [Option.some.injEq, Prod.mk.injEq] at H
    obtain ⟨rfl, rfl, rfl, rfl⟩ := H
    go_enter Try.func29, Try.ntmps29
    go_wp2_with (first | ((with_reducible refine gate_dst (N := 2) rfl ?_); refine box_event ?hg (N := 2) ?hd (cs := #[.int .i64 a0_0, .int .i64 a0_1, .slice A0_2 l0_2.length c0_2]) (t := 33) ?hr ?_; (case hd => rfl); (case hg => rfl); (case hr => first | (go_simp; done) | (go_simp; rfl)); intro gb315 hg w82 hbox hb; have n0_ := Aside0.mk (below_step (hb0 HB) hb); have n1_ := Aside0.mk (hbox); have n2_ := Aside0.mk ((by rw [hg]; exact (below_size (hb0 HB)) : w.heap.size ≤ gb315)); have n3_ := Aside0.mk ((by rw [hg]; exact (below_size (hb0 HB)) : w.heap.size ≤ gb315)); clear HB; have HB := n0_; have BK315 := n1_; have GW315 := n2_; have GE315 := n3_; clear n0_ n1_ n2_ n3_; clear hb hbox hg) | ((with_reducible refine gate_dst (N := 3) rfl ?_); refine box_event ?hg (N := 3) ?hd (cs := #[.int .i64 a1_0, .int .i64 a1_1, .int .i64 a1_2, .int .u32 a1_3]) (t := 38) ?hr ?_; (case hd => rfl); (case hg => rfl); (case hr => first | (go_simp; done) | (go_simp; rfl)); intro gb316 hg w83 hbox hb; have n0_ := Aside0.mk (blk_below (bkx BK315) hb); have n1_ := Aside0.mk (below_step (hb1 HB GE315) hb); have n2_ := Aside0.mk (hbox); have n3_ := Aside0.mk ((by rw [hg]; exact (below_size (hb1 HB GE315)) : w.heap.size ≤ gb316)); have n4_ := Aside0.mk ((by rw [hg]; exact (below_size (hb1 HB GE315)) : w.heap.size ≤ gb316)); have n5_ := Aside0.mk (nel hg BK315 : gb315 ≠ gb316); have n6_ := Aside0.mk (neg hg BK315 : gb316 ≠ gb315); clear BK315; clear HB; have BK315 := n0_; have HB := n1_; have BK316 := n2_; have GW316 := n3_; have GE316 := n4_; have NB315_316 := n5_; have NB316_315 := n6_; clear n0_ n1_ n2_ n3_ n4_ n5_ n6_; clear hb hbox hg) | ((with_reducible refine gate_dst (N := 4) rfl ?_); refine box_event ?hg (N := 4) ?hd (cs := #[.int .i64 0, .int .i64 0, .slice none 0 0]) (t := 24) ?hr ?_; (case hd => rfl); (case hg => rfl); (case hr => first | (go_simp; done) | (go_simp; rfl)); intro gb317 hg w84 hbox hb; have n0_ := Aside0.mk (blk_below (bkx BK315) hb); have n1_ := Aside0.mk (blk_below (bkx BK316) hb); have n2_ := Aside0.mk (below_step (hb2 HB GE315 GE316) hb); have n3_ := Aside0.mk (hbox); have n4_ := Aside0.mk ((by rw [hg]; exact (below_size (hb2 HB GE315 GE316)) : w.heap.size ≤ gb317)); have n5_ := Aside0.mk ((by rw [hg]; exact (below_size (hb2 HB GE315 GE316)) : w.heap.size ≤ gb317)); have n6_ := Aside0.mk (nel hg BK315 : gb315 ≠ gb317); have n7_ := Aside0.mk (neg hg BK315 : gb317 ≠ gb315); have n8_ := Aside0.mk (nel hg BK316 : gb316 ≠ gb317); have n9_ := Aside0.mk (neg hg BK316 : gb317 ≠ gb316); clear BK315; clear BK316; clear HB; have BK315 := n0_; have BK316 := n1_; have HB := n2_; have BK317 := n3_; have GW317 := n4_; have GE317 := n5_; have NB315_317 := n6_; have NB317_315 := n7_; have NB316_317 := n8_; have NB317_316 := n9_; clear n0_ n1_ n2_ n3_ n4_ n5_ n6_ n7_ n8_ n9_; clear hb hbox hg; have hnb85 := NB315_316.out; have hnc85 := NB316_315.out; have hnb86 := NB315_317.out; have hnc86 := NB317_315.out; have hcz87_0 : w84.cell? ⟨gb315, 0, none⟩ = some (.int .i64 a0_0) := (blk_cell BK315.out 0).trans rfl; have hcz87_1 : w84.cell? ⟨gb315, 1, none⟩ = some (.int .i64 a0_1) := (blk_cell BK315.out 1).trans rfl; have hcz87_2 : w84.cell? ⟨gb315, 2, none⟩ = some (.slice A0_2 l0_2.length c0_2) := (blk_cell BK315.out 2).trans rfl; have hfz87_0 := blk_frozen BK315.out 0; have hfz87_1 := blk_frozen BK315.out 1; have hfz87_2 := blk_frozen BK315.out 2; have hnb88 := NB316_317.out; have hnc88 := NB317_316.out; have hcz89_0 : w84.cell? ⟨gb316, 0, none⟩ = some (.int .i64 a1_0) := (blk_cell BK316.out 0).trans rfl; have hcz89_1 : w84.cell? ⟨gb316, 1, none⟩ = some (.int .i64 a1_1) := (blk_cell BK316.out 1).trans rfl; have hcz89_2 : w84.cell? ⟨gb316, 2, none⟩ = some (.int .i64 a1_2) := (blk_cell BK316.out 2).trans rfl; have hcz89_3 : w84.cell? ⟨gb316, 3, none⟩ = some (.int .u32 a1_3) := (blk_cell BK316.out 3).trans rfl; have hfz89_0 := blk_frozen BK316.out 0; have hfz89_1 := blk_frozen BK316.out 1; have hfz89_2 := blk_frozen BK316.out 2; have hfz89_3 := blk_frozen BK316.out 3) | ((with_reducible refine gate_callee (f := 49) rfl ?_); refine goesL_ (some 20) rfl rfl Try.func49 (by kernel_rfl) rfl #[.agg #[.int .i64 a0_0, .int .i64 a0_1, .slice A0_2 l0_2.length c0_2], .int .i64 a1_0] rfl mapx ?_; (with_reducible refine (barscanref31_Turn.calls k a0_0 a0_1 _ _ l0_2 a1_0 t318 t319 t320 t323 _ ?side1 ?side2 A3.out).mono ?_); (case side1 => repeat (first | exact (Kd.C_below HR0_2.out HB.out) | (with_reducible refine Kd.C_alloc ?_ _) | (with_reducible refine Kd.C_drewN ?_ _) | (with_reducible refine Kd.C_drew ?_))); (case side2 => exact HC0_2.out); rintro e w90 ⟨v321, rfl, ho0, hb⟩; refine ⟨_, rfl, ?_⟩; have n0_ := Aside0.mk (Kd.R_lower ho0 (below_size (hb3 HB GE315 GE316 GE317))); have n1_ := Aside0.mk (blk_below (bkx BK315) hb); have n2_ := Aside0.mk (blk_below (bkx BK316) hb); have n3_ := Aside0.mk (blk_below (bkx BK317) hb); have n4_ := Aside0.mk (below_step (hb3 HB GE315 GE316 GE317) hb); clear BK315; clear BK316; clear BK317; clear HB; have HO322 := n0_; have BK315 := n1_; have BK316 := n2_; have BK317 := n3_; have HB := n4_; clear n0_ n1_ n2_ n3_ n4_; (try clear hb); (try clear hb2); (try clear hk); (try clear hi); (try clear ho0)) | ((with_reducible refine gate_dst (N := 6) rfl ?_); refine box_event ?hg (N := 6) ?hd (cs := #[.int .i64 0, .int .i64 0, .slice none 0 0]) (t := 33) ?hr ?_; (case hd => rfl); (case hg => rfl); (case hr => first | (go_simp; done) | (go_simp; rfl)); intro gb324 hg w91 hbox hb; have n0_ := Aside0.mk (Kd.R_below (rkx HO322) hb); have n1_ := Aside0.mk (blk_below (bkx BK315) hb); have n2_ := Aside0.mk (blk_below (bkx BK316) hb); have n3_ := Aside0.mk (blk_below (bkx BK317) hb); have n4_ := Aside0.mk (below_step (hb3 HB GE315 GE316 GE317) hb); have n5_ := Aside0.mk (hbox); have n6_ := Aside0.mk ((by rw [hg]; exact (below_size (hb3 HB GE315 GE316 GE317)) : w.heap.size ≤ gb324)); have n7_ := Aside0.mk ((by rw [hg]; exact (below_size (hb3 HB GE315 GE316 GE317)) : w.heap.size ≤ gb324)); have n8_ := Aside0.mk (nel hg BK315 : gb315 ≠ gb324); have n9_ := Aside0.mk (neg hg BK315 : gb324 ≠ gb315); have n10_ := Aside0.mk (nel hg BK316 : gb316 ≠ gb324); have n11_ := Aside0.mk (neg hg BK316 : gb324 ≠ gb316); have n12_ := Aside0.mk (nel hg BK317 : gb317 ≠ gb324); have n13_ := Aside0.mk (neg hg BK317 : gb324 ≠ gb317); clear HO322; clear BK315; clear BK316; clear BK317; clear HB; have HO322 := n0_; have BK315 := n1_; have BK316 := n2_; have BK317 := n3_; have HB := n4_; have BK324 := n5_; have GW324 := n6_; have GE324 := n7_; have NB315_324 := n8_; have NB324_315 := n9_; have NB316_324 := n10_; have NB324_316 := n11_; have NB317_324 := n12_; have NB324_317 := n13_; clear n0_ n1_ n2_ n3_ n4_ n5_ n6_ n7_ n8_ n9_ n10_ n11_ n12_ n13_; clear hb hbox hg; have hnb92 := NB324_315.out; have hnc92 := NB315_324.out; have hnb93 := NB324_316.out; have hnc93 := NB316_324.out; have hnb94 := NB324_317.out; have hnc94 := NB317_324.out; have hcz95_0 : w91.cell? ⟨gb324, 0, none⟩ = some (.int .i64 0) := (blk_cell BK324.out 0).trans rfl; have hcz95_1 : w91.cell? ⟨gb324, 1, none⟩ = some (.int .i64 0) := (blk_cell BK324.out 1).trans rfl; have hcz95_2 : w91.cell? ⟨gb324, 2, none⟩ = some (.slice none 0 0) := (blk_cell BK324.out 2).trans rfl; have hfz95_0 := blk_frozen BK324.out 0; have hfz95_1 := blk_frozen BK324.out 1; have hfz95_2 := blk_frozen BK324.out 2; obtain ⟨Ao96, co96, eo96⟩ := Kd.R_slice HO322.out; subst eo96) | ((with_reducible refine gate_callee (f := 50) rfl ?_); refine goesL_ (some 29) rfl rfl Try.func50 (by kernel_rfl) rfl #[.agg #[.int .i64 t318, .int .i64 t319, .slice Ao96 t320.length co96]] rfl mapx ?_; (with_reducible refine (barscanref31_Gray.calls k t318 t319 _ _ t320 t325 t326 t327 t330 _ ?side1 ?side2 A5.out).mono ?_); (case side1 => refine (Kd.R_reads' (e := 4) (base := w.heap.size) (ok := fun k_ => True) (n := t320.length) (c := co96) ?_).2.2; exact (by refine rkt ?_; exact (far3 HO322 BK324))); (case side2 => exact (Kd.R_reads' HO322.out).2.1); rintro e w97 ⟨v328, rfl, ho0, hb⟩; refine ⟨_, rfl, ?_⟩; have n0_ := Aside0.mk (Kd.R_below (by refine rkt ?_; exact (far3 HO322 BK324)) hb); have n1_ := Aside0.mk (Kd.R_lower ho0 (below_size (hb4 HB GE315 GE316 GE317 GE324))); have n2_ := Aside0.mk (blk_below (g := gb315) (o := .cells #[.int .i64 a0_0, .int .i64 a0_1, .slice A0_2 l0_2.length c0_2] 33 (0, 0)) (bky BK315 NB315_324) hb); have n3_ := Aside0.mk (blk_below (g := gb316) (o := .cells #[.int .i64 a1_0, .int .i64 a1_1, .int .i64 a1_2, .int .u32 a1_3] 38 (0, 0)) (bky BK316 NB316_324) hb); have n4_ := Aside0.mk (blk_below (g := gb317) (o := .cells #[.int .i64 0, .int .i64 0, .slice none 0 0] 24 (0, 0)) (bky BK317 NB317_324) hb); have n5_ := Aside0.mk (blk_below (g := gb324) (o := .cells #[.int .i64 t318, .int .i64 t319, .slice Ao96 t320.length co96] 33 (0, 0)) (by refine bkt ?_; refine blk_put (cs := #[.int .i64 t318, .int .i64 t319, .slice none 0 0]) ?_ 2 _ rfl; refine bkt ?_; refine blk_put (cs := #[.int .i64 t318, .int .i64 0, .slice none 0 0]) ?_ 1 _ rfl; refine bkt ?_; refine blk_put (cs := #[.int .i64 0, .int .i64 0, .slice none 0 0]) ?_ 0 _ rfl; refine bkt ?_; exact BK324.out) hb); have n6_ := Aside0.mk (below_step (hb4 HB GE315 GE316 GE317 GE324) hb); clear HO322; clear BK315; clear BK316; clear BK317; clear BK324; clear HB; have HO322 := n0_; have HO329 := n1_; have BK315 := n2_; have BK316 := n3_; have BK317 := n4_; have BK324 := n5_; have HB := n6_; clear n0_ n1_ n2_ n3_ n4_ n5_ n6_; (try clear hb); (try clear hb2); (try clear hk); (try clear hi); (try clear ho0)) | ((with_reducible refine gate_dst (N := 8) rfl ?_); refine box_event ?hg (N := 8) ?hd (cs := #[.int .i64 0, .int .i64 0, .slice none 0 0]) (t := 24) ?hr ?_; (case hd => rfl); (case hg => rfl); (case hr => first | (go_simp; done) | (go_simp; rfl)); intro gb331 hg w98 hbox hb; have n0_ := Aside0.mk (Kd.R_below (rkx HO322) hb); have n1_ := Aside0.mk (Kd.R_below (rkx HO329) hb); have n2_ := Aside0.mk (blk_below (bkx BK315) hb); have n3_ := Aside0.mk (blk_below (bkx BK316) hb); have n4_ := Aside0.mk (blk_below (bkx BK317) hb); have n5_ := Aside0.mk (blk_below (bkx BK324) hb); have n6_ := Aside0.mk (below_step (hb4 HB GE315 GE316 GE317 GE324) hb); have n7_ := Aside0.mk (hbox); have n8_ := Aside0.mk ((by rw [hg]; exact (below_size (hb4 HB GE315 GE316 GE317 GE324)) : w.heap.size ≤ gb331)); have n9_ := Aside0.mk ((by rw [hg]; exact (below_size (hb4 HB GE315 GE316 GE317 GE324)) : w.heap.size ≤ gb331)); have n10_ := Aside0.mk (nel hg BK315 : gb315 ≠ gb331); have n11_ := Aside0.mk (neg hg BK315 : gb331 ≠ gb315); have n12_ := Aside0.mk (nel hg BK316 : gb316 ≠ gb331); have n13_ := Aside0.mk (neg hg BK316 : gb331 ≠ gb316); have n14_ := Aside0.mk (nel hg BK317 : gb317 ≠ gb331); have n15_ := Aside0.mk (neg hg BK317 : gb331 ≠ gb317); have n16_ := Aside0.mk (nel hg BK324 : gb324 ≠ gb331); have n17_ := Aside0.mk (neg hg BK324 : gb331 ≠ gb324); clear HO322; clear HO329; clear BK315; clear BK316; clear BK317; clear BK324; clear HB; have HO322 := n0_; have HO329 := n1_; have BK315 := n2_; have BK316 := n3_; have BK317 := n4_; have BK324 := n5_; have HB := n6_; have BK331 := n7_; have GW331 := n8_; have GE331 := n9_; have NB315_331 := n10_; have NB331_315 := n11_; have NB316_331 := n12_; have NB331_316 := n13_; have NB317_331 := n14_; have NB331_317 := n15_; have NB324_331 := n16_; have NB331_324 := n17_; clear n0_ n1_ n2_ n3_ n4_ n5_ n6_ n7_ n8_ n9_ n10_ n11_ n12_ n13_ n14_ n15_ n16_ n17_; clear hb hbox hg; have hnb99 := NB331_315.out; have hnc99 := NB315_331.out; have hnb100 := NB331_316.out; have hnc100 := NB316_331.out; have hnb101 := NB331_317.out; have hnc101 := NB317_331.out; have hnb102 := NB331_324.out; have hnc102 := NB324_331.out; have hcz103_0 : w98.cell? ⟨gb331, 0, none⟩ = some (.int .i64 0) := (blk_cell BK331.out 0).trans rfl; have hcz103_1 : w98.cell? ⟨gb331, 1, none⟩ = some (.int .i64 0) := (blk_cell BK331.out 1).trans rfl; have hcz103_2 : w98.cell? ⟨gb331, 2, none⟩ = some (.slice none 0 0) := (blk_cell BK331.out 2).trans rfl; have hfz103_0 := blk_frozen BK331.out 0; have hfz103_1 := blk_frozen BK331.out 1; have hfz103_2 := blk_frozen BK331.out 2; obtain ⟨Ao104, co104, eo104⟩ := Kd.R_slice HO329.out; subst eo104; have hcz105_0 : w98.cell? ⟨gb316, 0, none⟩ = some (.int .i64 a1_0) := (blk_cell BK316.out 0).trans rfl; have hcz105_1 : w98.cell? ⟨gb316, 1, none⟩ = some (.int .i64 a1_1) := (blk_cell BK316.out 1).trans rfl; have hcz105_2 : w98.cell? ⟨gb316, 2, none⟩ = some (.int .i64 a1_2) := (blk_cell BK316.out 2).trans rfl; have hcz105_3 : w98.cell? ⟨gb316, 3, none⟩ = some (.int .u32 a1_3) := (blk_cell BK316.out 3).trans rfl; have hfz105_0 := blk_frozen BK316.out 0; have hfz105_1 := blk_frozen BK316.out 1; have hfz105_2 := blk_frozen BK316.out 2; have hfz105_3 := blk_frozen BK316.out 3) | ((with_reducible refine gate_callee (f := 12) rfl ?_); refine goesL_ (some 36) rfl rfl Try.func12 (by kernel_rfl) rfl #[.agg #[.int .i64 t325, .int .i64 t326, .slice Ao104 t327.length co104], .int .i64 a1_1] rfl mapx ?_; (with_reducible refine (barscanref43_Blur.calls k t325 t326 _ _ t327 a1_1 t332 t333 t334 t337 _ ?side1 ?side2 A6.out).mono ?_); (case side1 => refine (Kd.R_reads' (e := 5) (base := w.heap.size) (ok := fun k_ => True) (n := t327.length) (c := co104) ?_).2.2; exact (by refine rkt ?_; exact (far3 HO329 BK331))); (case side2 => exact (Kd.R_reads' HO329.out).2.1); rintro e w106 ⟨v335, rfl, ho0, hb⟩; refine ⟨_, rfl, ?_⟩; have n0_ := Aside0.mk (Kd.R_below (by refine rkt ?_; exact (far3 HO322 BK331)) hb); have n1_ := Aside0.mk (Kd.R_elder' (by refine rkt ?_; exact (far3 HO329 BK331)) (Kd.R_base ho0) hb); have n2_ := Aside0.mk (Kd.R_lower (Kd.R_new' ho0 (Kd.R_lt (by refine rkt ?_; exact (far3 HO329 BK331)))) (below_size (hb5 HB GE315 GE316 GE317 GE324 GE331))); have n3_ := Aside0.mk (blk_below (g := gb315) (o := .cells #[.int .i64 a0_0, .int .i64 a0_1, .slice A0_2 l0_2.length c0_2] 33 (0, 0)) (bky BK315 NB315_331) hb); have n4_ := Aside0.mk (blk_below (g := gb316) (o := .cells #[.int .i64 a1_0, .int .i64 a1_1, .int .i64 a1_2, .int .u32 a1_3] 38 (0, 0)) (bky BK316 NB316_331) hb); have n5_ := Aside0.mk (blk_below (g := gb317) (o := .cells #[.int .i64 0, .int .i64 0, .slice none 0 0] 24 (0, 0)) (bky BK317 NB317_331) hb); have n6_ := Aside0.mk (blk_below (g := gb324) (o := .cells #[.int .i64 t318, .int .i64 t319, .slice Ao96 t320.length co96] 33 (0, 0)) (bky BK324 NB324_331) hb); have n7_ := Aside0.mk (blk_below (g := gb331) (o := .cells #[.int .i64 t325, .int .i64 t326, .slice Ao104 t327.length co104] 24 (0, 0)) (by refine bkt ?_; refine blk_put (cs := #[.int .i64 t325, .int .i64 t326, .slice none 0 0]) ?_ 2 _ rfl; refine bkt ?_; refine blk_put (cs := #[.int .i64 t325, .int .i64 0, .slice none 0 0]) ?_ 1 _ rfl; refine bkt ?_; refine blk_put (cs := #[.int .i64 0, .int .i64 0, .slice none 0 0]) ?_ 0 _ rfl; refine bkt ?_; exact BK331.out) hb); have n8_ := Aside0.mk (below_step (hb5 HB GE315 GE316 GE317 GE324 GE331) hb); clear HO322; clear HO329; clear BK315; clear BK316; clear BK317; clear BK324; clear BK331; clear HB; have HO322 := n0_; have HO329 := n1_; have HO336 := n2_; have BK315 := n3_; have BK316 := n4_; have BK317 := n5_; have BK324 := n6_; have BK331 := n7_; have HB := n8_; clear n0_ n1_ n2_ n3_ n4_ n5_ n6_ n7_ n8_; (try clear hb); (try clear hb2); (try clear hk); (try clear hi); (try clear ho0)) | ((with_reducible refine gate_dst (N := 10) rfl ?_); refine box_event ?hg (N := 10) ?hd (cs := #[.int .i64 0, .int .i64 0, .slice none 0 0]) (t := 24) ?hr ?_; (case hd => rfl); (case hg => rfl); (case hr => first | (go_simp; done) | (go_simp; rfl)); intro gb338 hg w107 hbox hb; have n0_ := Aside0.mk (Kd.R_below (rkx HO322) hb); have n1_ := Aside0.mk (Kd.R_below (rkx HO329) hb); have n2_ := Aside0.mk (Kd.R_below (rkx HO336) hb); have n3_ := Aside0.mk (blk_below (bkx BK315) hb); have n4_ := Aside0.mk (blk_below (bkx BK316) hb); have n5_ := Aside0.mk (blk_below (bkx BK317) hb); have n6_ := Aside0.mk (blk_below (bkx BK324) hb); have n7_ := Aside0.mk (blk_below (bkx BK331) hb); have n8_ := Aside0.mk (below_step (hb5 HB GE315 GE316 GE317 GE324 GE331) hb); have n9_ := Aside0.mk (hbox); have n10_ := Aside0.mk ((by rw [hg]; exact (below_size (hb5 HB GE315 GE316 GE317 GE324 GE331)) : w.heap.size ≤ gb338)); have n11_ := Aside0.mk ((by rw [hg]; exact (below_size (hb5 HB GE315 GE316 GE317 GE324 GE331)) : w.heap.size ≤ gb338)); have n12_ := Aside0.mk (nel hg BK315 : gb315 ≠ gb338); have n13_ := Aside0.mk (neg hg BK315 : gb338 ≠ gb315); have n14_ := Aside0.mk (nel hg BK316 : gb316 ≠ gb338); have n15_ := Aside0.mk (neg hg BK316 : gb338 ≠ gb316); have n16_ := Aside0.mk (nel hg BK317 : gb317 ≠ gb338); have n17_ := Aside0.mk (neg hg BK317 : gb338 ≠ gb317); have n18_ := Aside0.mk (nel hg BK324 : gb324 ≠ gb338); have n19_ := Aside0.mk (neg hg BK324 : gb338 ≠ gb324); have n20_ := Aside0.mk (nel hg BK331 : gb331 ≠ gb338); have n21_ := Aside0.mk (neg hg BK331 : gb338 ≠ gb331); clear HO322; clear HO329; clear HO336; clear BK315; clear BK316; clear BK317; clear BK324; clear BK331; clear HB; have HO322 := n0_; have HO329 := n1_; have HO336 := n2_; have BK315 := n3_; have BK316 := n4_; have BK317 := n5_; have BK324 := n6_; have BK331 := n7_; have HB := n8_; have BK338 := n9_; have GW338 := n10_; have GE338 := n11_; have NB315_338 := n12_; have NB338_315 := n13_; have NB316_338 := n14_; have NB338_316 := n15_; have NB317_338 := n16_; have NB338_317 := n17_; have NB324_338 := n18_; have NB338_324 := n19_; have NB331_338 := n20_; have NB338_331 := n21_; clear n0_ n1_ n2_ n3_ n4_ n5_ n6_ n7_ n8_ n9_ n10_ n11_ n12_ n13_ n14_ n15_ n16_ n17_ n18_ n19_ n20_ n21_; clear hb hbox hg; have hnb108 := NB338_315.out; have hnc108 := NB315_338.out; have hnb109 := NB338_316.out; have hnc109 := NB316_338.out; have hnb110 := NB338_317.out; have hnc110 := NB317_338.out; have hnb111 := NB338_324.out; have hnc111 := NB324_338.out; have hnb112 := NB338_331.out; have hnc112 := NB331_338.out; have hcz113_0 : w107.cell? ⟨gb338, 0, none⟩ = some (.int .i64 0) := (blk_cell BK338.out 0).trans rfl; have hcz113_1 : w107.cell? ⟨gb338, 1, none⟩ = some (.int .i64 0) := (blk_cell BK338.out 1).trans rfl; have hcz113_2 : w107.cell? ⟨gb338, 2, none⟩ = some (.slice none 0 0) := (blk_cell BK338.out 2).trans rfl; have hfz113_0 := blk_frozen BK338.out 0; have hfz113_1 := blk_frozen BK338.out 1; have hfz113_2 := blk_frozen BK338.out 2; obtain ⟨Ao114, co114, eo114⟩ := Kd.R_slice HO336.out; subst eo114; have hcz115_0 : w107.cell? ⟨gb324, 0, none⟩ = some (.int .i64 t318) := (blk_cell BK324.out 0).trans rfl; have hcz115_1 : w107.cell? ⟨gb324, 1, none⟩ = some (.int .i64 t319) := (blk_cell BK324.out 1).trans rfl; have hcz115_2 : w107.cell? ⟨gb324, 2, none⟩ = some (.slice Ao96 t320.length co96) := (blk_cell BK324.out 2).trans rfl; have hfz115_0 := blk_frozen BK324.out 0; have hfz115_1 := blk_frozen BK324.out 1; have hfz115_2 := blk_frozen BK324.out 2; have hcz116_0 : w107.cell? ⟨gb316, 0, none⟩ = some (.int .i64 a1_0) := (blk_cell BK316.out 0).trans rfl; have hcz116_1 : w107.cell? ⟨gb316, 1, none⟩ = some (.int .i64 a1_1) := (blk_cell BK316.out 1).trans rfl; have hcz116_2 : w107.cell? ⟨gb316, 2, none⟩ = some (.int .i64 a1_2) := (blk_cell BK316.out 2).trans rfl; have hcz116_3 : w107.cell? ⟨gb316, 3, none⟩ = some (.int .u32 a1_3) := (blk_cell BK316.out 3).trans rfl; have hfz116_0 := blk_frozen BK316.out 0; have hfz116_1 := blk_frozen BK316.out 1; have hfz116_2 := blk_frozen BK316.out 2; have hfz116_3 := blk_frozen BK316.out 3) | ((with_reducible refine gate_callee (f := 25) rfl ?_); refine goesL_ (some 52) rfl rfl Try.func25 (by kernel_rfl) rfl #[.int .i64 t318, .int .i64 t319, .int .i64 a1_2, .int .u32 a1_3] rfl mapx ?_; (with_reducible refine (barscanref43_Places.calls k t318 t319 a1_2 a1_3 t339 t340 _ A8.out).mono ?_); rintro e w117 ⟨v341, rfl, ho0, hb⟩; refine ⟨_, rfl, ?_⟩; have n0_ := Aside0.mk (Kd.R_below (by refine rkt ?_; exact (far3 HO322 BK338)) hb); have n1_ := Aside0.mk (Kd.R_below (by refine rkt ?_; exact (far3 HO329 BK338)) hb); have n2_ := Aside0.mk (Kd.R_below (by refine rkt ?_; exact (far3 HO336 BK338)) hb); have n3_ := Aside0.mk (Kd.R_lower ho0 (below_size (hb6 HB GE315 GE316 GE317 GE324 GE331 GE338))); have n4_ := Aside0.mk (blk_below (g := gb315) (o := .cells #[.int .i64 a0_0, .int .i64 a0_1, .slice A0_2 l0_2.length c0_2] 33 (0, 0)) (bky BK315 NB315_338) hb); have n5_ := Aside0.mk (blk_below (g := gb316) (o := .cells #[.int .i64 a1_0, .int .i64 a1_1, .int .i64 a1_2, .int .u32 a1_3] 38 (0, 0)) (bky BK316 NB316_338) hb); have n6_ := Aside0.mk (blk_below (g := gb317) (o := .cells #[.int .i64 0, .int .i64 0, .slice none 0 0] 24 (0, 0)) (bky BK317 NB317_338) hb); have n7_ := Aside0.mk (blk_below (g := gb324) (o := .cells #[.int .i64 t318, .int .i64 t319, .slice Ao96 t320.length co96] 33 (0, 0)) (bky BK324 NB324_338) hb); have n8_ := Aside0.mk (blk_below (g := gb331) (o := .cells #[.int .i64 t325, .int .i64 t326, .slice Ao104 t327.length co104] 24 (0, 0)) (bky BK331 NB331_338) hb); have n9_ := Aside0.mk (blk_below (g := gb338) (o := .cells #[.int .i64 t332, .int .i64 t333, .slice Ao114 t334.length co114] 24 (0, 0)) (by refine bkt ?_; refine blk_put (cs := #[.int .i64 t332, .int .i64 t333, .slice none 0 0]) ?_ 2 _ rfl; refine bkt ?_; refine blk_put (cs := #[.int .i64 t332, .int .i64 0, .slice none 0 0]) ?_ 1 _ rfl; refine bkt ?_; refine blk_put (cs := #[.int .i64 0, .int .i64 0, .slice none 0 0]) ?_ 0 _ rfl; refine bkt ?_; exact BK338.out) hb); have n10_ := Aside0.mk (below_step (hb6 HB GE315 GE316 GE317 GE324 GE331 GE338) hb); clear HO322; clear HO329; clear HO336; clear BK315; clear BK316; clear BK317; clear BK324; clear BK331; clear BK338; clear HB; have HO322 := n0_; have HO329 := n1_; have HO336 := n2_; have HO342 := n3_; have BK315 := n4_; have BK316 := n5_; have BK317 := n6_; have BK324 := n7_; have BK331 := n8_; have BK338 := n9_; have HB := n10_; clear n0_ n1_ n2_ n3_ n4_ n5_ n6_ n7_ n8_ n9_ n10_; (try clear hb); (try clear hb2); (try clear hk); (try clear hi); (try clear ho0); have hcz118_0 : w117.cell? ⟨gb317, 0, none⟩ = some (.int .i64 0) := (blk_cell BK317.out 0).trans rfl; have hcz118_1 : w117.cell? ⟨gb317, 1, none⟩ = some (.int .i64 0) := (blk_cell BK317.out 1).trans rfl; have hcz118_2 : w117.cell? ⟨gb317, 2, none⟩ = some (.slice none 0 0) := (blk_cell BK317.out 2).trans rfl; have hfz118_0 := blk_frozen BK317.out 0; have hfz118_1 := blk_frozen BK317.out 1; have hfz118_2 := blk_frozen BK317.out 2))
    refine bodyPost_ret (results_ct rfl _ _ gb317 24 #[.int .i64 0, .int .i64 0, .slice none 0 0] (0, 0) _ rfl (by refine bkt ?_; refine blk_put (cs := #[.int .i64 0, .int .i64 0, .slice none 0 0]) ?_ 2 _ rfl; refine bkt ?_; refine blk_put (cs := #[.int .i64 0, .int .i64 0, .slice none 0 0]) ?_ 1 _ rfl; refine bkt ?_; refine blk_put (cs := #[.int .i64 0, .int .i64 0, .slice none 0 0]) ?_ 0 _ rfl; refine bkt ?_; exact BK317.out) Try.underlying24 rfl (by kernel_rfl)) rfl ?_
    exact ⟨_, by first | rfl | (simp [errW_none, errW_some] <;> rfl) | (simp [*, errW_none, errW_some] <;> rfl), by first | exact Kd.R_nil _ _ _ _ _ | exact Kd.N_nil _ _ _ _ _ | exact Kd.V_nil _ _ _ _ _ | exact Kd.Q_nil _ _ _ _ _ | exact Kd.S_nil _ _ _ _ _, by repeat (first | (with_reducible first | exact HB.out | apply below_alloc | apply pw_below_drewN | apply below_drew1 | refine below_set ?_ GE315.out | refine below_set ?_ GE316.out | refine below_set ?_ GE317.out | refine below_set ?_ GE324.out | refine below_set ?_ GE331.out | refine below_set ?_ GE338.out) | exact HB.out)⟩
  ·rw [if_neg c7] at H
   have c7b0 : (t337 == 0) = false := beq_eq_false_iff_ne.mpr c7
   have c7b1 : (t337 != 0) = true := bne_iff_ne.mpr c7
   simp only [Option.some.injEq, Prod.mk.injEq] at H
   obtain ⟨rfl, rfl, rfl, rfl⟩ := H
   go_enter Try.func29, Try.ntmps29
   go_wp2_with (first | ((with_reducible refine gate_dst (N := 2) rfl ?_); refine box_event ?hg (N := 2) ?hd (cs := #[.int .i64 a0_0, .int .i64 a0_1, .slice A0_2 l0_2.length c0_2]) (t := 33) ?hr ?_; (case hd => rfl); (case hg => rfl); (case hr => first | (go_simp; done) | (go_simp; rfl)); intro gb315 hg w119 hbox hb; have n0_ := Aside0.mk (below_step (hb0 HB) hb); have n1_ := Aside0.mk (hbox); have n2_ := Aside0.mk ((by rw [hg]; exact (below_size (hb0 HB)) : w.heap.size ≤ gb315)); have n3_ := Aside0.mk ((by rw [hg]; exact (below_size (hb0 HB)) : w.heap.size ≤ gb315)); clear HB; have HB := n0_; have BK315 := n1_; have GW315 := n2_; have GE315 := n3_; clear n0_ n1_ n2_ n3_; clear hb hbox hg) | ((with_reducible refine gate_dst (N := 3) rfl ?_); refine box_event ?hg (N := 3) ?hd (cs := #[.int .i64 a1_0, .int .i64 a1_1, .int .i64 a1_2, .int .u32 a1_3]) (t := 38) ?hr ?_; (case hd => rfl); (case hg => rfl); (case hr => first | (go_simp; done) | (go_simp; rfl)); intro gb316 hg w120 hbox hb; have n0_ := Aside0.mk (blk_below (bkx BK315) hb); have n1_ := Aside0.mk (below_step (hb1 HB GE315) hb); have n2_ := Aside0.mk (hbox); have n3_ := Aside0.mk ((by rw [hg]; exact (below_size (hb1 HB GE315)) : w.heap.size ≤ gb316)); have n4_ := Aside0.mk ((by rw [hg]; exact (below_size (hb1 HB GE315)) : w.heap.size ≤ gb316)); have n5_ := Aside0.mk (nel hg BK315 : gb315 ≠ gb316); have n6_ := Aside0.mk (neg hg BK315 : gb316 ≠ gb315); clear BK315; clear HB; have BK315 := n0_; have HB := n1_; have BK316 := n2_; have GW316 := n3_; have GE316 := n4_; have NB315_316 := n5_; have NB316_315 := n6_; clear n0_ n1_ n2_ n3_ n4_ n5_ n6_; clear hb hbox hg) | ((with_reducible refine gate_dst (N := 4) rfl ?_); refine box_event ?hg (N := 4) ?hd (cs := #[.int .i64 0, .int .i64 0, .slice none 0 0]) (t := 24) ?hr ?_; (case hd => rfl); (case hg => rfl); (case hr => first | (go_simp; done) | (go_simp; rfl)); intro gb317 hg w121 hbox hb; have n0_ := Aside0.mk (blk_below (bkx BK315) hb); have n1_ := Aside0.mk (blk_below (bkx BK316) hb); have n2_ := Aside0.mk (below_step (hb2 HB GE315 GE316) hb); have n3_ := Aside0.mk (hbox); have n4_ := Aside0.mk ((by rw [hg]; exact (below_size (hb2 HB GE315 GE316)) : w.heap.size ≤ gb317)); have n5_ := Aside0.mk ((by rw [hg]; exact (below_size (hb2 HB GE315 GE316)) : w.heap.size ≤ gb317)); have n6_ := Aside0.mk (nel hg BK315 : gb315 ≠ gb317); have n7_ := Aside0.mk (neg hg BK315 : gb317 ≠ gb315); have n8_ := Aside0.mk (nel hg BK316 : gb316 ≠ gb317); have n9_ := Aside0.mk (neg hg BK316 : gb317 ≠ gb316); clear BK315; clear BK316; clear HB; have BK315 := n0_; have BK316 := n1_; have HB := n2_; have BK317 := n3_; have GW317 := n4_; have GE317 := n5_; have NB315_317 := n6_; have NB317_315 := n7_; have NB316_317 := n8_; have NB317_316 := n9_; clear n0_ n1_ n2_ n3_ n4_ n5_ n6_ n7_ n8_ n9_; clear hb hbox hg; have hnb122 := NB315_316.out; have hnc122 := NB316_315.out; have hnb123 := NB315_317.out; have hnc123 := NB317_315.out; have hcz124_0 : w121.cell? ⟨gb315, 0, none⟩ = some (.int .i64 a0_0) := (blk_cell BK315.out 0).trans rfl; have hcz124_1 : w121.cell? ⟨gb315, 1, none⟩ = some (.int .i64 a0_1) := (blk_cell BK315.out 1).trans rfl; have hcz124_2 : w121.cell? ⟨gb315, 2, none⟩ = some (.slice A0_2 l0_2.length c0_2) := (blk_cell BK315.out 2).trans rfl; have hfz124_0 := blk_frozen BK315.out 0; have hfz124_1 := blk_frozen BK315.out 1; have hfz124_2 := blk_frozen BK315.out 2; have hnb125 := NB316_317.out; have hnc125 := NB317_316.out; have hcz126_0 : w121.cell? ⟨gb316, 0, none⟩ = some (.int .i64 a1_0) := (blk_cell BK316.out 0).trans rfl; have hcz126_1 : w121.cell? ⟨gb316, 1, none⟩ = some (.int .i64 a1_1) := (blk_cell BK316.out 1).trans rfl; have hcz126_2 : w121.cell? ⟨gb316, 2, none⟩ = some (.int .i64 a1_2) := (blk_cell BK316.out 2).trans rfl; have hcz126_3 : w121.cell? ⟨gb316, 3, none⟩ = some (.int .u32 a1_3) := (blk_cell BK316.out 3).trans rfl; have hfz126_0 := blk_frozen BK316.out 0; have hfz126_1 := blk_frozen BK316.out 1; have hfz126_2 := blk_frozen BK316.out 2; have hfz126_3 := blk_frozen BK316.out 3) | ((with_reducible refine gate_callee (f := 49) rfl ?_); refine goesL_ (some 20) rfl rfl Try.func49 (by kernel_rfl) rfl #[.agg #[.int .i64 a0_0, .int .i64 a0_1, .slice A0_2 l0_2.length c0_2], .int .i64 a1_0] rfl mapx ?_; (with_reducible refine (barscanref31_Turn.calls k a0_0 a0_1 _ _ l0_2 a1_0 t318 t319 t320 t323 _ ?side1 ?side2 A3.out).mono ?_); (case side1 => repeat (first | exact (Kd.C_below HR0_2.out HB.out) | (with_reducible refine Kd.C_alloc ?_ _) | (with_reducible refine Kd.C_drewN ?_ _) | (with_reducible refine Kd.C_drew ?_))); (case side2 => exact HC0_2.out); rintro e w127 ⟨v321, rfl, ho0, hb⟩; refine ⟨_, rfl, ?_⟩; have n0_ := Aside0.mk (Kd.R_lower ho0 (below_size (hb3 HB GE315 GE316 GE317))); have n1_ := Aside0.mk (blk_below (bkx BK315) hb); have n2_ := Aside0.mk (blk_below (bkx BK316) hb); have n3_ := Aside0.mk (blk_below (bkx BK317) hb); have n4_ := Aside0.mk (below_step (hb3 HB GE315 GE316 GE317) hb); clear BK315; clear BK316; clear BK317; clear HB; have HO322 := n0_; have BK315 := n1_; have BK316 := n2_; have BK317 := n3_; have HB := n4_; clear n0_ n1_ n2_ n3_ n4_; (try clear hb); (try clear hb2); (try clear hk); (try clear hi); (try clear ho0)) | ((with_reducible refine gate_dst (N := 6) rfl ?_); refine box_event ?hg (N := 6) ?hd (cs := #[.int .i64 0, .int .i64 0, .slice none 0 0]) (t := 33) ?hr ?_; (case hd => rfl); (case hg => rfl); (case hr => first | (go_simp; done) | (go_simp; rfl)); intro gb324 hg w128 hbox hb; have n0_ := Aside0.mk (Kd.R_below (rkx HO322) hb); have n1_ := Aside0.mk (blk_below (bkx BK315) hb); have n2_ := Aside0.mk (blk_below (bkx BK316) hb); have n3_ := Aside0.mk (blk_below (bkx BK317) hb); have n4_ := Aside0.mk (below_step (hb3 HB GE315 GE316 GE317) hb); have n5_ := Aside0.mk (hbox); have n6_ := Aside0.mk ((by rw [hg]; exact (below_size (hb3 HB GE315 GE316 GE317)) : w.heap.size ≤ gb324)); have n7_ := Aside0.mk ((by rw [hg]; exact (below_size (hb3 HB GE315 GE316 GE317)) : w.heap.size ≤ gb324)); have n8_ := Aside0.mk (nel hg BK315 : gb315 ≠ gb324); have n9_ := Aside0.mk (neg hg BK315 : gb324 ≠ gb315); have n10_ := Aside0.mk (nel hg BK316 : gb316 ≠ gb324); have n11_ := Aside0.mk (neg hg BK316 : gb324 ≠ gb316); have n12_ := Aside0.mk (nel hg BK317 : gb317 ≠ gb324); have n13_ := Aside0.mk (neg hg BK317 : gb324 ≠ gb317); clear HO322; clear BK315; clear BK316; clear BK317; clear HB; have HO322 := n0_; have BK315 := n1_; have BK316 := n2_; have BK317 := n3_; have HB := n4_; have BK324 := n5_; have GW324 := n6_; have GE324 := n7_; have NB315_324 := n8_; have NB324_315 := n9_; have NB316_324 := n10_; have NB324_316 := n11_; have NB317_324 := n12_; have NB324_317 := n13_; clear n0_ n1_ n2_ n3_ n4_ n5_ n6_ n7_ n8_ n9_ n10_ n11_ n12_ n13_; clear hb hbox hg; have hnb129 := NB324_315.out; have hnc129 := NB315_324.out; have hnb130 := NB324_316.out; have hnc130 := NB316_324.out; have hnb131 := NB324_317.out; have hnc131 := NB317_324.out; have hcz132_0 : w128.cell? ⟨gb324, 0, none⟩ = some (.int .i64 0) := (blk_cell BK324.out 0).trans rfl; have hcz132_1 : w128.cell? ⟨gb324, 1, none⟩ = some (.int .i64 0) := (blk_cell BK324.out 1).trans rfl; have hcz132_2 : w128.cell? ⟨gb324, 2, none⟩ = some (.slice none 0 0) := (blk_cell BK324.out 2).trans rfl; have hfz132_0 := blk_frozen BK324.out 0; have hfz132_1 := blk_frozen BK324.out 1; have hfz132_2 := blk_frozen BK324.out 2; obtain ⟨Ao133, co133, eo133⟩ := Kd.R_slice HO322.out; subst eo133) | ((with_reducible refine gate_callee (f := 50) rfl ?_); refine goesL_ (some 29) rfl rfl Try.func50 (by kernel_rfl) rfl #[.agg #[.int .i64 t318, .int .i64 t319, .slice Ao133 t320.length co133]] rfl mapx ?_; (with_reducible refine (barscanref31_Gray.calls k t318 t319 _ _ t320 t325 t326 t327 t330 _ ?side1 ?side2 A5.out).mono ?_); (case side1 => refine (Kd.R_reads' (e := 4) (base := w.heap.size) (ok := fun k_ => True) (n := t320.length) (c := co133) ?_).2.2; exact (by refine rkt ?_; exact (far3 HO322 BK324))); (case side2 => exact (Kd.R_reads' HO322.out).2.1); rintro e w134 ⟨v328, rfl, ho0, hb⟩; refine ⟨_, rfl, ?_⟩; have n0_ := Aside0.mk (Kd.R_below (by refine rkt ?_; exact (far3 HO322 BK324)) hb); have n1_ := Aside0.mk (Kd.R_lower ho0 (below_size (hb4 HB GE315 GE316 GE317 GE324))); have n2_ := Aside0.mk (blk_below (g := gb315) (o := .cells #[.int .i64 a0_0, .int .i64 a0_1, .slice A0_2 l0_2.length c0_2] 33 (0, 0)) (bky BK315 NB315_324) hb); have n3_ := Aside0.mk (blk_below (g := gb316) (o := .cells #[.int .i64 a1_0, .int .i64 a1_1, .int .i64 a1_2, .int .u32 a1_3] 38 (0, 0)) (bky BK316 NB316_324) hb); have n4_ := Aside0.mk (blk_below (g := gb317) (o := .cells #[.int .i64 0, .int .i64 0, .slice none 0 0] 24 (0, 0)) (bky BK317 NB317_324) hb); have n5_ := Aside0.mk (blk_below (g := gb324) (o := .cells #[.int .i64 t318, .int .i64 t319, .slice Ao133 t320.length co133] 33 (0, 0)) (by refine bkt ?_; refine blk_put (cs := #[.int .i64 t318, .int .i64 t319, .slice none 0 0]) ?_ 2 _ rfl; refine bkt ?_; refine blk_put (cs := #[.int .i64 t318, .int .i64 0, .slice none 0 0]) ?_ 1 _ rfl; refine bkt ?_; refine blk_put (cs := #[.int .i64 0, .int .i64 0, .slice none 0 0]) ?_ 0 _ rfl; refine bkt ?_; exact BK324.out) hb); have n6_ := Aside0.mk (below_step (hb4 HB GE315 GE316 GE317 GE324) hb); clear HO322; clear BK315; clear BK316; clear BK317; clear BK324; clear HB; have HO322 := n0_; have HO329 := n1_; have BK315 := n2_; have BK316 := n3_; have BK317 := n4_; have BK324 := n5_; have HB := n6_; clear n0_ n1_ n2_ n3_ n4_ n5_ n6_; (try clear hb); (try clear hb2); (try clear hk); (try clear hi); (try clear ho0)) | ((with_reducible refine gate_dst (N := 8) rfl ?_); refine box_event ?hg (N := 8) ?hd (cs := #[.int .i64 0, .int .i64 0, .slice none 0 0]) (t := 24) ?hr ?_; (case hd => rfl); (case hg => rfl); (case hr => first | (go_simp; done) | (go_simp; rfl)); intro gb331 hg w135 hbox hb; have n0_ := Aside0.mk (Kd.R_below (rkx HO322) hb); have n1_ := Aside0.mk (Kd.R_below (rkx HO329) hb); have n2_ := Aside0.mk (blk_below (bkx BK315) hb); have n3_ := Aside0.mk (blk_below (bkx BK316) hb); have n4_ := Aside0.mk (blk_below (bkx BK317) hb); have n5_ := Aside0.mk (blk_below (bkx BK324) hb); have n6_ := Aside0.mk (below_step (hb4 HB GE315 GE316 GE317 GE324) hb); have n7_ := Aside0.mk (hbox); have n8_ := Aside0.mk ((by rw [hg]; exact (below_size (hb4 HB GE315 GE316 GE317 GE324)) : w.heap.size ≤ gb331)); have n9_ := Aside0.mk ((by rw [hg]; exact (below_size (hb4 HB GE315 GE316 GE317 GE324)) : w.heap.size ≤ gb331)); have n10_ := Aside0.mk (nel hg BK315 : gb315 ≠ gb331); have n11_ := Aside0.mk (neg hg BK315 : gb331 ≠ gb315); have n12_ := Aside0.mk (nel hg BK316 : gb316 ≠ gb331); have n13_ := Aside0.mk (neg hg BK316 : gb331 ≠ gb316); have n14_ := Aside0.mk (nel hg BK317 : gb317 ≠ gb331); have n15_ := Aside0.mk (neg hg BK317 : gb331 ≠ gb317); have n16_ := Aside0.mk (nel hg BK324 : gb324 ≠ gb331); have n17_ := Aside0.mk (neg hg BK324 : gb331 ≠ gb324); clear HO322; clear HO329; clear BK315; clear BK316; clear BK317; clear BK324; clear HB; have HO322 := n0_; have HO329 := n1_; have BK315 := n2_; have BK316 := n3_; have BK317 := n4_; have BK324 := n5_; have HB := n6_; have BK331 := n7_; have GW331 := n8_; have GE331 := n9_; have NB315_331 := n10_; have NB331_315 := n11_; have NB316_331 := n12_; have NB331_316 := n13_; have NB317_331 := n14_; have NB331_317 := n15_; have NB324_331 := n16_; have NB331_324 := n17_; clear n0_ n1_ n2_ n3_ n4_ n5_ n6_ n7_ n8_ n9_ n10_ n11_ n12_ n13_ n14_ n15_ n16_ n17_; clear hb hbox hg; have hnb136 := NB331_315.out; have hnc136 := NB315_331.out; have hnb137 := NB331_316.out; have hnc137 := NB316_331.out; have hnb138 := NB331_317.out; have hnc138 := NB317_331.out; have hnb139 := NB331_324.out; have hnc139 := NB324_331.out; have hcz140_0 : w135.cell? ⟨gb331, 0, none⟩ = some (.int .i64 0) := (blk_cell BK331.out 0).trans rfl; have hcz140_1 : w135.cell? ⟨gb331, 1, none⟩ = some (.int .i64 0) := (blk_cell BK331.out 1).trans rfl; have hcz140_2 : w135.cell? ⟨gb331, 2, none⟩ = some (.slice none 0 0) := (blk_cell BK331.out 2).trans rfl; have hfz140_0 := blk_frozen BK331.out 0; have hfz140_1 := blk_frozen BK331.out 1; have hfz140_2 := blk_frozen BK331.out 2; obtain ⟨Ao141, co141, eo141⟩ := Kd.R_slice HO329.out; subst eo141; have hcz142_0 : w135.cell? ⟨gb316, 0, none⟩ = some (.int .i64 a1_0) := (blk_cell BK316.out 0).trans rfl; have hcz142_1 : w135.cell? ⟨gb316, 1, none⟩ = some (.int .i64 a1_1) := (blk_cell BK316.out 1).trans rfl; have hcz142_2 : w135.cell? ⟨gb316, 2, none⟩ = some (.int .i64 a1_2) := (blk_cell BK316.out 2).trans rfl; have hcz142_3 : w135.cell? ⟨gb316, 3, none⟩ = some (.int .u32 a1_3) := (blk_cell BK316.out 3).trans rfl; have hfz142_0 := blk_frozen BK316.out 0; have hfz142_1 := blk_frozen BK316.out 1; have hfz142_2 := blk_frozen BK316.out 2; have hfz142_3 := blk_frozen BK316.out 3) | ((with_reducible refine gate_callee (f := 12) rfl ?_); refine goesL_ (some 36) rfl rfl Try.func12 (by kernel_rfl) rfl #[.agg #[.int .i64 t325, .int .i64 t326, .slice Ao141 t327.length co141], .int .i64 a1_1] rfl mapx ?_; (with_reducible refine (barscanref43_Blur.calls k t325 t326 _ _ t327 a1_1 t332 t333 t334 t337 _ ?side1 ?side2 A6.out).mono ?_); (case side1 => refine (Kd.R_reads' (e := 5) (base := w.heap.size) (ok := fun k_ => True) (n := t327.length) (c := co141) ?_).2.2; exact (by refine rkt ?_; exact (far3 HO329 BK331))); (case side2 => exact (Kd.R_reads' HO329.out).2.1); rintro e w143 ⟨v335, rfl, ho0, hb⟩; refine ⟨_, rfl, ?_⟩; have n0_ := Aside0.mk (Kd.R_below (by refine rkt ?_; exact (far3 HO322 BK331)) hb); have n1_ := Aside0.mk (Kd.R_elder' (by refine rkt ?_; exact (far3 HO329 BK331)) (Kd.R_base ho0) hb); have n2_ := Aside0.mk (Kd.R_lower (Kd.R_new' ho0 (Kd.R_lt (by refine rkt ?_; exact (far3 HO329 BK331)))) (below_size (hb5 HB GE315 GE316 GE317 GE324 GE331))); have n3_ := Aside0.mk (blk_below (g := gb315) (o := .cells #[.int .i64 a0_0, .int .i64 a0_1, .slice A0_2 l0_2.length c0_2] 33 (0, 0)) (bky BK315 NB315_331) hb); have n4_ := Aside0.mk (blk_below (g := gb316) (o := .cells #[.int .i64 a1_0, .int .i64 a1_1, .int .i64 a1_2, .int .u32 a1_3] 38 (0, 0)) (bky BK316 NB316_331) hb); have n5_ := Aside0.mk (blk_below (g := gb317) (o := .cells #[.int .i64 0, .int .i64 0, .slice none 0 0] 24 (0, 0)) (bky BK317 NB317_331) hb); have n6_ := Aside0.mk (blk_below (g := gb324) (o := .cells #[.int .i64 t318, .int .i64 t319, .slice Ao133 t320.length co133] 33 (0, 0)) (bky BK324 NB324_331) hb); have n7_ := Aside0.mk (blk_below (g := gb331) (o := .cells #[.int .i64 t325, .int .i64 t326, .slice Ao141 t327.length co141] 24 (0, 0)) (by refine bkt ?_; refine blk_put (cs := #[.int .i64 t325, .int .i64 t326, .slice none 0 0]) ?_ 2 _ rfl; refine bkt ?_; refine blk_put (cs := #[.int .i64 t325, .int .i64 0, .slice none 0 0]) ?_ 1 _ rfl; refine bkt ?_; refine blk_put (cs := #[.int .i64 0, .int .i64 0, .slice none 0 0]) ?_ 0 _ rfl; refine bkt ?_; exact BK331.out) hb); have n8_ := Aside0.mk (below_step (hb5 HB GE315 GE316 GE317 GE324 GE331) hb); clear HO322; clear HO329; clear BK315; clear BK316; clear BK317; clear BK324; clear BK331; clear HB; have HO322 := n0_; have HO329 := n1_; have HO336 := n2_; have BK315 := n3_; have BK316 := n4_; have BK317 := n5_; have BK324 := n6_; have BK331 := n7_; have HB := n8_; clear n0_ n1_ n2_ n3_ n4_ n5_ n6_ n7_ n8_; (try clear hb); (try clear hb2); (try clear hk); (try clear hi); (try clear ho0)) | ((with_reducible refine gate_dst (N := 10) rfl ?_); refine box_event ?hg (N := 10) ?hd (cs := #[.int .i64 0, .int .i64 0, .slice none 0 0]) (t := 24) ?hr ?_; (case hd => rfl); (case hg => rfl); (case hr => first | (go_simp; done) | (go_simp; rfl)); intro gb338 hg w144 hbox hb; have n0_ := Aside0.mk (Kd.R_below (rkx HO322) hb); have n1_ := Aside0.mk (Kd.R_below (rkx HO329) hb); have n2_ := Aside0.mk (Kd.R_below (rkx HO336) hb); have n3_ := Aside0.mk (blk_below (bkx BK315) hb); have n4_ := Aside0.mk (blk_below (bkx BK316) hb); have n5_ := Aside0.mk (blk_below (bkx BK317) hb); have n6_ := Aside0.mk (blk_below (bkx BK324) hb); have n7_ := Aside0.mk (blk_below (bkx BK331) hb); have n8_ := Aside0.mk (below_step (hb5 HB GE315 GE316 GE317 GE324 GE331) hb); have n9_ := Aside0.mk (hbox); have n10_ := Aside0.mk ((by rw [hg]; exact (below_size (hb5 HB GE315 GE316 GE317 GE324 GE331)) : w.heap.size ≤ gb338)); have n11_ := Aside0.mk ((by rw [hg]; exact (below_size (hb5 HB GE315 GE316 GE317 GE324 GE331)) : w.heap.size ≤ gb338)); have n12_ := Aside0.mk (nel hg BK315 : gb315 ≠ gb338); have n13_ := Aside0.mk (neg hg BK315 : gb338 ≠ gb315); have n14_ := Aside0.mk (nel hg BK316 : gb316 ≠ gb338); have n15_ := Aside0.mk (neg hg BK316 : gb338 ≠ gb316); have n16_ := Aside0.mk (nel hg BK317 : gb317 ≠ gb338); have n17_ := Aside0.mk (neg hg BK317 : gb338 ≠ gb317); have n18_ := Aside0.mk (nel hg BK324 : gb324 ≠ gb338); have n19_ := Aside0.mk (neg hg BK324 : gb338 ≠ gb324); have n20_ := Aside0.mk (nel hg BK331 : gb331 ≠ gb338); have n21_ := Aside0.mk (neg hg BK331 : gb338 ≠ gb331); clear HO322; clear HO329; clear HO336; clear BK315; clear BK316; clear BK317; clear BK324; clear BK331; clear HB; have HO322 := n0_; have HO329 := n1_; have HO336 := n2_; have BK315 := n3_; have BK316 := n4_; have BK317 := n5_; have BK324 := n6_; have BK331 := n7_; have HB := n8_; have BK338 := n9_; have GW338 := n10_; have GE338 := n11_; have NB315_338 := n12_; have NB338_315 := n13_; have NB316_338 := n14_; have NB338_316 := n15_; have NB317_338 := n16_; have NB338_317 := n17_; have NB324_338 := n18_; have NB338_324 := n19_; have NB331_338 := n20_; have NB338_331 := n21_; clear n0_ n1_ n2_ n3_ n4_ n5_ n6_ n7_ n8_ n9_ n10_ n11_ n12_ n13_ n14_ n15_ n16_ n17_ n18_ n19_ n20_ n21_; clear hb hbox hg; have hnb145 := NB338_315.out; have hnc145 := NB315_338.out; have hnb146 := NB338_316.out; have hnc146 := NB316_338.out; have hnb147 := NB338_317.out; have hnc147 := NB317_338.out; have hnb148 := NB338_324.out; have hnc148 := NB324_338.out; have hnb149 := NB338_331.out; have hnc149 := NB331_338.out; have hcz150_0 : w144.cell? ⟨gb338, 0, none⟩ = some (.int .i64 0) := (blk_cell BK338.out 0).trans rfl; have hcz150_1 : w144.cell? ⟨gb338, 1, none⟩ = some (.int .i64 0) := (blk_cell BK338.out 1).trans rfl; have hcz150_2 : w144.cell? ⟨gb338, 2, none⟩ = some (.slice none 0 0) := (blk_cell BK338.out 2).trans rfl; have hfz150_0 := blk_frozen BK338.out 0; have hfz150_1 := blk_frozen BK338.out 1; have hfz150_2 := blk_frozen BK338.out 2; obtain ⟨Ao151, co151, eo151⟩ := Kd.R_slice HO336.out; subst eo151; have hcz152_0 : w144.cell? ⟨gb317, 0, none⟩ = some (.int .i64 0) := (blk_cell BK317.out 0).trans rfl; have hcz152_1 : w144.cell? ⟨gb317, 1, none⟩ = some (.int .i64 0) := (blk_cell BK317.out 1).trans rfl; have hcz152_2 : w144.cell? ⟨gb317, 2, none⟩ = some (.slice none 0 0) := (blk_cell BK317.out 2).trans rfl; have hfz152_0 := blk_frozen BK317.out 0; have hfz152_1 := blk_frozen BK317.out 1; have hfz152_2 := blk_frozen BK317.out 2))
   refine bodyPost_ret (results_ct rfl _ _ gb317 24 #[.int .i64 0, .int .i64 0, .slice none 0 0] (0, 0) _ rfl (by refine bkt ?_; refine blk_put (cs := #[.int .i64 0, .int .i64 0, .slice none 0 0]) ?_ 2 _ rfl; refine bkt ?_; refine blk_put (cs := #[.int .i64 0, .int .i64 0, .slice none 0 0]) ?_ 1 _ rfl; refine bkt ?_; refine blk_put (cs := #[.int .i64 0, .int .i64 0, .slice none 0 0]) ?_ 0 _ rfl; refine bkt ?_; refine blk_far ?_ NB317_338.out _; refine bkt ?_; refine blk_far ?_ NB317_338.out _; refine bkt ?_; refine blk_far ?_ NB317_338.out _; refine bkt ?_; exact BK317.out) Try.underlying24 rfl (by kernel_rfl)) rfl ?_
   exact ⟨_, by first | rfl | (simp [errW_none, errW_some] <;> rfl) | (simp [*, errW_none, errW_some] <;> rfl), by first | exact Kd.R_nil _ _ _ _ _ | exact Kd.N_nil _ _ _ _ _ | exact Kd.V_nil _ _ _ _ _ | exact Kd.Q_nil _ _ _ _ _ | exact Kd.S_nil _ _ _ _ _, by repeat (first | (with_reducible first | exact HB.out | apply below_alloc | apply pw_below_drewN | apply below_drew1 | refine below_set ?_ GE315.out | refine below_set ?_ GE316.out | refine below_set ?_ GE317.out | refine below_set ?_ GE324.out | refine below_set ?_ GE331.out | refine below_set ?_ GE338.out) | exact HB.out)⟩
 ·rw [if_neg c4] at H
  have c4b0 : (t323 == 0) = false := beq_eq_false_iff_ne.mpr c4
  have c4b1 : (t323 != 0) = true := bne_iff_ne.mpr c4
  simp only [Option.some.injEq, Prod.mk.injEq] at H
  obtain ⟨rfl, rfl, rfl, rfl⟩ := H
  go_enter Try.func29, Try.ntmps29
  go_wp2_with (first | ((with_reducible refine gate_dst (N := 2) rfl ?_); refine box_event ?hg (N := 2) ?hd (cs := #[.int .i64 a0_0, .int .i64 a0_1, .slice A0_2 l0_2.length c0_2]) (t := 33) ?hr ?_; (case hd => rfl); (case hg => rfl); (case hr => first | (go_simp; done) | (go_simp; rfl)); intro gb315 hg w153 hbox hb; have n0_ := Aside0.mk (below_step (hb0 HB) hb); have n1_ := Aside0.mk (hbox); have n2_ := Aside0.mk ((by rw [hg]; exact (below_size (hb0 HB)) : w.heap.size ≤ gb315)); have n3_ := Aside0.mk ((by rw [hg]; exact (below_size (hb0 HB)) : w.heap.size ≤ gb315)); clear HB; have HB := n0_; have BK315 := n1_; have GW315 := n2_; have GE315 := n3_; clear n0_ n1_ n2_ n3_; clear hb hbox hg) | ((with_reducible refine gate_dst (N := 3) rfl ?_); refine box_event ?hg (N := 3) ?hd (cs := #[.int .i64 a1_0, .int .i64 a1_1, .int .i64 a1_2, .int .u32 a1_3]) (t := 38) ?hr ?_; (case hd => rfl); (case hg => rfl); (case hr => first | (go_simp; done) | (go_simp; rfl)); intro gb316 hg w154 hbox hb; have n0_ := Aside0.mk (blk_below (bkx BK315) hb); have n1_ := Aside0.mk (below_step (hb1 HB GE315) hb); have n2_ := Aside0.mk (hbox); have n3_ := Aside0.mk ((by rw [hg]; exact (below_size (hb1 HB GE315)) : w.heap.size ≤ gb316)); have n4_ := Aside0.mk ((by rw [hg]; exact (below_size (hb1 HB GE315)) : w.heap.size ≤ gb316)); have n5_ := Aside0.mk (nel hg BK315 : gb315 ≠ gb316); have n6_ := Aside0.mk (neg hg BK315 : gb316 ≠ gb315); clear BK315; clear HB; have BK315 := n0_; have HB := n1_; have BK316 := n2_; have GW316 := n3_; have GE316 := n4_; have NB315_316 := n5_; have NB316_315 := n6_; clear n0_ n1_ n2_ n3_ n4_ n5_ n6_; clear hb hbox hg) | ((with_reducible refine gate_dst (N := 4) rfl ?_); refine box_event ?hg (N := 4) ?hd (cs := #[.int .i64 0, .int .i64 0, .slice none 0 0]) (t := 24) ?hr ?_; (case hd => rfl); (case hg => rfl); (case hr => first | (go_simp; done) | (go_simp; rfl)); intro gb317 hg w155 hbox hb; have n0_ := Aside0.mk (blk_below (bkx BK315) hb); have n1_ := Aside0.mk (blk_below (bkx BK316) hb); have n2_ := Aside0.mk (below_step (hb2 HB GE315 GE316) hb); have n3_ := Aside0.mk (hbox); have n4_ := Aside0.mk ((by rw [hg]; exact (below_size (hb2 HB GE315 GE316)) : w.heap.size ≤ gb317)); have n5_ := Aside0.mk ((by rw [hg]; exact (below_size (hb2 HB GE315 GE316)) : w.heap.size ≤ gb317)); have n6_ := Aside0.mk (nel hg BK315 : gb315 ≠ gb317); have n7_ := Aside0.mk (neg hg BK315 : gb317 ≠ gb315); have n8_ := Aside0.mk (nel hg BK316 : gb316 ≠ gb317); have n9_ := Aside0.mk (neg hg BK316 : gb317 ≠ gb316); clear BK315; clear BK316; clear HB; have BK315 := n0_; have BK316 := n1_; have HB := n2_; have BK317 := n3_; have GW317 := n4_; have GE317 := n5_; have NB315_317 := n6_; have NB317_315 := n7_; have NB316_317 := n8_; have NB317_316 := n9_; clear n0_ n1_ n2_ n3_ n4_ n5_ n6_ n7_ n8_ n9_; clear hb hbox hg; have hnb156 := NB315_316.out; have hnc156 := NB316_315.out; have hnb157 := NB315_317.out; have hnc157 := NB317_315.out; have hcz158_0 : w155.cell? ⟨gb315, 0, none⟩ = some (.int .i64 a0_0) := (blk_cell BK315.out 0).trans rfl; have hcz158_1 : w155.cell? ⟨gb315, 1, none⟩ = some (.int .i64 a0_1) := (blk_cell BK315.out 1).trans rfl; have hcz158_2 : w155.cell? ⟨gb315, 2, none⟩ = some (.slice A0_2 l0_2.length c0_2) := (blk_cell BK315.out 2).trans rfl; have hfz158_0 := blk_frozen BK315.out 0; have hfz158_1 := blk_frozen BK315.out 1; have hfz158_2 := blk_frozen BK315.out 2; have hnb159 := NB316_317.out; have hnc159 := NB317_316.out; have hcz160_0 : w155.cell? ⟨gb316, 0, none⟩ = some (.int .i64 a1_0) := (blk_cell BK316.out 0).trans rfl; have hcz160_1 : w155.cell? ⟨gb316, 1, none⟩ = some (.int .i64 a1_1) := (blk_cell BK316.out 1).trans rfl; have hcz160_2 : w155.cell? ⟨gb316, 2, none⟩ = some (.int .i64 a1_2) := (blk_cell BK316.out 2).trans rfl; have hcz160_3 : w155.cell? ⟨gb316, 3, none⟩ = some (.int .u32 a1_3) := (blk_cell BK316.out 3).trans rfl; have hfz160_0 := blk_frozen BK316.out 0; have hfz160_1 := blk_frozen BK316.out 1; have hfz160_2 := blk_frozen BK316.out 2; have hfz160_3 := blk_frozen BK316.out 3) | ((with_reducible refine gate_callee (f := 49) rfl ?_); refine goesL_ (some 20) rfl rfl Try.func49 (by kernel_rfl) rfl #[.agg #[.int .i64 a0_0, .int .i64 a0_1, .slice A0_2 l0_2.length c0_2], .int .i64 a1_0] rfl mapx ?_; (with_reducible refine (barscanref31_Turn.calls k a0_0 a0_1 _ _ l0_2 a1_0 t318 t319 t320 t323 _ ?side1 ?side2 A3.out).mono ?_); (case side1 => repeat (first | exact (Kd.C_below HR0_2.out HB.out) | (with_reducible refine Kd.C_alloc ?_ _) | (with_reducible refine Kd.C_drewN ?_ _) | (with_reducible refine Kd.C_drew ?_))); (case side2 => exact HC0_2.out); rintro e w161 ⟨v321, rfl, ho0, hb⟩; refine ⟨_, rfl, ?_⟩; have n0_ := Aside0.mk (Kd.R_lower ho0 (below_size (hb3 HB GE315 GE316 GE317))); have n1_ := Aside0.mk (blk_below (bkx BK315) hb); have n2_ := Aside0.mk (blk_below (bkx BK316) hb); have n3_ := Aside0.mk (blk_below (bkx BK317) hb); have n4_ := Aside0.mk (below_step (hb3 HB GE315 GE316 GE317) hb); clear BK315; clear BK316; clear BK317; clear HB; have HO322 := n0_; have BK315 := n1_; have BK316 := n2_; have BK317 := n3_; have HB := n4_; clear n0_ n1_ n2_ n3_ n4_; (try clear hb); (try clear hb2); (try clear hk); (try clear hi); (try clear ho0)) | ((with_reducible refine gate_dst (N := 6) rfl ?_); refine box_event ?hg (N := 6) ?hd (cs := #[.int .i64 0, .int .i64 0, .slice none 0 0]) (t := 33) ?hr ?_; (case hd => rfl); (case hg => rfl); (case hr => first | (go_simp; done) | (go_simp; rfl)); intro gb324 hg w162 hbox hb; have n0_ := Aside0.mk (Kd.R_below (rkx HO322) hb); have n1_ := Aside0.mk (blk_below (bkx BK315) hb); have n2_ := Aside0.mk (blk_below (bkx BK316) hb); have n3_ := Aside0.mk (blk_below (bkx BK317) hb); have n4_ := Aside0.mk (below_step (hb3 HB GE315 GE316 GE317) hb); have n5_ := Aside0.mk (hbox); have n6_ := Aside0.mk ((by rw [hg]; exact (below_size (hb3 HB GE315 GE316 GE317)) : w.heap.size ≤ gb324)); have n7_ := Aside0.mk ((by rw [hg]; exact (below_size (hb3 HB GE315 GE316 GE317)) : w.heap.size ≤ gb324)); have n8_ := Aside0.mk (nel hg BK315 : gb315 ≠ gb324); have n9_ := Aside0.mk (neg hg BK315 : gb324 ≠ gb315); have n10_ := Aside0.mk (nel hg BK316 : gb316 ≠ gb324); have n11_ := Aside0.mk (neg hg BK316 : gb324 ≠ gb316); have n12_ := Aside0.mk (nel hg BK317 : gb317 ≠ gb324); have n13_ := Aside0.mk (neg hg BK317 : gb324 ≠ gb317); clear HO322; clear BK315; clear BK316; clear BK317; clear HB; have HO322 := n0_; have BK315 := n1_; have BK316 := n2_; have BK317 := n3_; have HB := n4_; have BK324 := n5_; have GW324 := n6_; have GE324 := n7_; have NB315_324 := n8_; have NB324_315 := n9_; have NB316_324 := n10_; have NB324_316 := n11_; have NB317_324 := n12_; have NB324_317 := n13_; clear n0_ n1_ n2_ n3_ n4_ n5_ n6_ n7_ n8_ n9_ n10_ n11_ n12_ n13_; clear hb hbox hg; have hnb163 := NB324_315.out; have hnc163 := NB315_324.out; have hnb164 := NB324_316.out; have hnc164 := NB316_324.out; have hnb165 := NB324_317.out; have hnc165 := NB317_324.out; have hcz166_0 : w162.cell? ⟨gb324, 0, none⟩ = some (.int .i64 0) := (blk_cell BK324.out 0).trans rfl; have hcz166_1 : w162.cell? ⟨gb324, 1, none⟩ = some (.int .i64 0) := (blk_cell BK324.out 1).trans rfl; have hcz166_2 : w162.cell? ⟨gb324, 2, none⟩ = some (.slice none 0 0) := (blk_cell BK324.out 2).trans rfl; have hfz166_0 := blk_frozen BK324.out 0; have hfz166_1 := blk_frozen BK324.out 1; have hfz166_2 := blk_frozen BK324.out 2; obtain ⟨Ao167, co167, eo167⟩ := Kd.R_slice HO322.out; subst eo167; have hcz168_0 : w162.cell? ⟨gb317, 0, none⟩ = some (.int .i64 0) := (blk_cell BK317.out 0).trans rfl; have hcz168_1 : w162.cell? ⟨gb317, 1, none⟩ = some (.int .i64 0) := (blk_cell BK317.out 1).trans rfl; have hcz168_2 : w162.cell? ⟨gb317, 2, none⟩ = some (.slice none 0 0) := (blk_cell BK317.out 2).trans rfl; have hfz168_0 := blk_frozen BK317.out 0; have hfz168_1 := blk_frozen BK317.out 1; have hfz168_2 := blk_frozen BK317.out 2))
  refine bodyPost_ret (results_ct rfl _ _ gb317 24 #[.int .i64 0, .int .i64 0, .slice none 0 0] (0, 0) _ rfl (by refine bkt ?_; refine blk_put (cs := #[.int .i64 0, .int .i64 0, .slice none 0 0]) ?_ 2 _ rfl; refine bkt ?_; refine blk_put (cs := #[.int .i64 0, .int .i64 0, .slice none 0 0]) ?_ 1 _ rfl; refine bkt ?_; refine blk_put (cs := #[.int .i64 0, .int .i64 0, .slice none 0 0]) ?_ 0 _ rfl; refine bkt ?_; refine blk_far ?_ NB317_324.out _; refine bkt ?_; refine blk_far ?_ NB317_324.out _; refine bkt ?_; refine blk_far ?_ NB317_324.out _; refine bkt ?_; exact BK317.out) Try.underlying24 rfl (by kernel_rfl)) rfl ?_
  exact ⟨_, by first | rfl | (simp [errW_none, errW_some] <;> rfl) | (simp [*, errW_none, errW_some] <;> rfl), by first | exact Kd.R_nil _ _ _ _ _ | exact Kd.N_nil _ _ _ _ _ | exact Kd.V_nil _ _ _ _ _ | exact Kd.Q_nil _ _ _ _ _ | exact Kd.S_nil _ _ _ _ _, by repeat (first | (with_reducible first | exact HB.out | apply below_alloc | apply pw_below_drewN | apply below_drew1 | refine below_set ?_ GE315.out | refine below_set ?_ GE316.out | refine below_set ?_ GE317.out | refine below_set ?_ GE324.out) | exact HB.out)⟩

end Go.Proofs.Ytbipbbckfmilfaa.PR
