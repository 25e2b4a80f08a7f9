-- Written by this session's own program (myprint.py).
import Derived.Test.YtbipbbckfmilfaaPRx0
import Derived.Test.YtbipbbckfmilfaaPRx11
namespace Go.Proofs.Ytbipbbckfmilfaa.PR
open Go.RowKit Go.Proofs.YtbipbbckfmilfaaW.PrintWords Go.Proofs.YtbipbbckfmilfaaW.PrintLast Go.Proofs.YtbipbbckfmilfaaW.PrintMore Go.Proofs.Ytbipbbckfmilfaa.XWords Go.Proofs.Ytbipbbckfmilfaa.XShort Go.Proofs.Ytbipbbckfmilfaa.XFn
attribute [local go_sem] max2_int min2_int max_two min_two max_three min_three max_four min_four   -- for this text's walks alone
set_option linter.unusedVariables false
set_option linter.unusedSimpArgs false

/-! ### barscanref31_Turn: function 49 -/
mutual
def barscanref31_Turn.l0 : Nat → Int → Int → Int → Int → List Bool → Int → Int → List Bool → Option (Int × Int × List Bool × Int)
 | 0, _, _, _, _, _, _, _, _ => none
 | k + 1, x1, x7, x288000, x288001, x288002, x297000, x297001, x297002 => (barscanref31_quarters.f x1).bind fun t297 => (if x7 < t297 then (barscanref31_Turn.l1 k x1 x7 0 x288000 x288001 x288002 x297000 x297001 x297002 x297001 x297000 ([] : List Bool)) else (some (x297000, x297001, x297002, 0)))
def barscanref31_Turn.l1 : Nat → Int → Int → Int → Int → Int → List Bool → Int → Int → List Bool → Int → Int → List Bool → Option (Int × Int × List Bool × Int)
 | 0, _, _, _, _, _, _, _, _, _, _, _, _ => none
 | k + 1, x1, x7, x9, x288000, x288001, x288002, x297000, x297001, x297002, x299000, x299001, x299002 => if x9 < (x288002.length : Int) then ((barscanref31_turned.f x297000 x297001 x9).bind fun t299 => (if 0 ≤ t299 then (if t299 < (x297002.length : Int) then (if x299002.length < 140737488355328 then (barscanref31_Turn.l1 k x1 x7 (wrap64 (x9 + 1)) x288000 x288001 x288002 x297000 x297001 x297002 x299000 x299001 (x299002 ++ [rdOf false x297002 t299])) else (none)) else (none)) else (none))) else (barscanref31_Turn.l0 k x1 (wrap64 (x7 + 1)) x288000 x288001 x288002 x299000 x299001 x299002)
end
def barscanref31_Turn.f (k : Nat) (a0_0 : Int) (a0_1 : Int) (l0_2 : List Bool) (a1 : Int) : Option (Int × Int × List Bool × Int) := (barscanref31_Valid.f a0_0 a0_1 l0_2).bind fun t289 => (if t289 = true then ((some (([] : List Bool) : List Bool)).bind fun y290 => (if y290.length + l0_2.length < 140737488355328 then (barscanref31_Turn.l0 k a1 0 a0_0 a0_1 l0_2 a0_0 a0_1 (y290 ++ l0_2)) else (none))) else (some (0, 0, ([] : List Bool), 1)))
theorem barscanref31_Turn.mono_l : ∀ k, (∀ y0 y1 y2 y3 y4 y5 y6 y7, LeO (barscanref31_Turn.l0 k y0 y1 y2 y3 y4 y5 y6 y7) (barscanref31_Turn.l0 (k + 1) y0 y1 y2 y3 y4 y5 y6 y7)) ∧ (∀ y0 y1 y2 y3 y4 y5 y6 y7 y8 y9 y10 y11, LeO (barscanref31_Turn.l1 k y0 y1 y2 y3 y4 y5 y6 y7 y8 y9 y10 y11) (barscanref31_Turn.l1 (k + 1) y0 y1 y2 y3 y4 y5 y6 y7 y8 y9 y10 y11))
 | 0 => ⟨fun _ _ _ _ _ _ _ _ r h => by simp [barscanref31_Turn.l0] at h, fun _ _ _ _ _ _ _ _ _ _ _ _ r h => by simp [barscanref31_Turn.l1] at h⟩
 | k + 1 => by
  obtain ⟨ih0, ih1⟩ := barscanref31_Turn.mono_l k
  refine ⟨?_, ?_⟩
  ·intro y0 y1 y2 y3 y4 y5 y6 y7
   unfold barscanref31_Turn.l0
   repeat' first
   | (with_reducible exact ih0 _ _ _ _ _ _ _ _)
   | (with_reducible exact ih1 _ _ _ _ _ _ _ _ _ _ _ _)
   | (with_reducible exact LeO.refl _)
   | (with_reducible exact LeO.none _)
   | (with_reducible refine LeO.ite ?_ ?_)
   | (with_reducible refine LeO.bind ?_ (fun _ => ?_))
   | exact ih0 _ _ _ _ _ _ _ _
   | exact ih1 _ _ _ _ _ _ _ _ _ _ _ _
   | exact LeO.none _
   | refine LeO.ite ?_ ?_
   | refine LeO.bind ?_ (fun _ => ?_)
  ·intro y0 y1 y2 y3 y4 y5 y6 y7 y8 y9 y10 y11
   unfold barscanref31_Turn.l1
   repeat' first
   | (with_reducible exact ih0 _ _ _ _ _ _ _ _)
   | (with_reducible exact ih1 _ _ _ _ _ _ _ _ _ _ _ _)
   | (with_reducible exact LeO.refl _)
   | (with_reducible exact LeO.none _)
   | (with_reducible refine LeO.ite ?_ ?_)
   | (with_reducible refine LeO.bind ?_ (fun _ => ?_))
   | exact ih0 _ _ _ _ _ _ _ _
   | exact ih1 _ _ _ _ _ _ _ _ _ _ _ _
   | exact LeO.none _
   | refine LeO.ite ?_ ?_
   | refine LeO.bind ?_ (fun _ => ?_)
theorem barscanref31_Turn.mono : ∀ a0 a1 a2 a3 k, LeO (barscanref31_Turn.f k a0 a1 a2 a3) (barscanref31_Turn.f (k + 1) a0 a1 a2 a3) := by
 intro a0 a1 a2 a3 k
 obtain ⟨ih0, ih1⟩ := barscanref31_Turn.mono_l k
 unfold barscanref31_Turn.f
 repeat' first
   | (with_reducible exact ih0 _ _ _ _ _ _ _ _)
   | (with_reducible exact ih1 _ _ _ _ _ _ _ _ _ _ _ _)
   | (with_reducible exact LeO.refl _)
   | (with_reducible exact LeO.none _)
   | (with_reducible refine LeO.ite ?_ ?_)
   | (with_reducible refine LeO.bind ?_ (fun _ => ?_))
   | exact ih0 _ _ _ _ _ _ _ _
   | exact ih1 _ _ _ _ _ _ _ _ _ _ _ _
   | exact LeO.none _
   | refine LeO.ite ?_ ?_
   | refine LeO.bind ?_ (fun _ => ?_)
def barscanref31_Turn.T3 : Bool × List (List Nat × List Nat) := (true, [([], []), ([0], [0]), ([], []), ([2], [2]), ([], []), ([], []), ([5], [5]), ([4, 6], [4, 6]), ([1, 3, 7], [1, 3, 7]), ([], []), ([9, 8, 7, 0, 1, 2, 3, 4, 5, 6, 7, 8, 9], [8, 9])])
def barscanref31_Turn.B3 : List Nat := [0, 1, 0, 4, 0, 0, 32, 112, 255, 0, 1023]
theorem barscanref31_Turn.tab3 : rtab .any (opsOf Try.f49 3) = barscanref31_Turn.T3 := by kernel_rfl
theorem barscanref31_Turn.bits3 : waitsOk barscanref31_Turn.T3.2 barscanref31_Turn.B3 = true := by kernel_rfl
def barscanref31_Turn.T11 : Bool × List (List Nat × List Nat) := (true, [([], []), ([0], [0]), ([], []), ([2], [2]), ([], []), ([4], [4]), ([], []), ([6], [6]), ([], []), ([5, 7, 8], [5, 7, 8]), ([3, 9], [3, 9]), ([10], [10]), ([11], [11]), ([1, 12, 9], [1, 12]), ([0, 1, 2, 3, 4, 5, 6, 7, 8, 9, 10, 11, 12, 13], []), ([14, 13, 13, 0, 1, 2, 3, 4, 5, 6, 7, 8, 9, 10, 11, 12, 13], [13, 14])])
def barscanref31_Turn.B11 : List Nat := [0, 1, 0, 4, 0, 16, 0, 64, 0, 496, 1020, 2044, 4092, 8191, 16383, 32767]
theorem barscanref31_Turn.tab11 : rtab .any (opsOf Try.f49 11) = barscanref31_Turn.T11 := by kernel_rfl
theorem barscanref31_Turn.bits11 : waitsOk barscanref31_Turn.T11.2 barscanref31_Turn.B11 = true := by kernel_rfl
set_option maxHeartbeats 8000000 in
set_option maxRecDepth 100000 in
theorem barscanref31_Turn.calls (k : Nat) (a0_0 : Int) (a0_1 : Int) (A0_2 : Option Addr) (c0_2 : Nat) (l0_2 : List Bool) (a1 : Int) (r1 : Int) (r2 : Int) (r3 : List Bool) (r4 : Int) (w : World) (hr0_2 : Kd.C Kd.bool w A0_2 l0_2.length l0_2) (hc0_2 : l0_2.length ≤ c0_2) (h : barscanref31_Turn.f k a0_0 a0_1 l0_2 a1 = some (r1, r2, r3, r4)) :
  Calls Try.prog 49 #[.agg #[.int .i64 a0_0, .int .i64 a0_1, .slice A0_2 l0_2.length c0_2], .int .i64 a1] w fun e w' => ∃ v2_ : Value, e = .returned (.tuple #[.agg #[.int .i64 r1, .int .i64 r2, v2_], .int .i64 r4]) ∧ Kd.R Kd.bool 4 w' w.heap.size (fun _ => True) v2_ r3 ∧ Below w.heap.size w w' := by
 have hu33 := Try.underlying33
 have HR0_2 := Aside0.mk hr0_2
 have HC0_2 := Aside0.mk hc0_2
 clear hr0_2 hc0_2
 have HB := Aside0.mk (Below.refl w.heap.size w)
 have H : ((barscanref31_Valid.f a0_0 a0_1 l0_2).bind fun t289 => (if t289 = true then ((some (([] : List Bool) : List Bool)).bind fun y290 => (if y290.length + l0_2.length < 140737488355328 then (barscanref31_Turn.l0 k a1 0 a0_0 a0_1 l0_2 a0_0 a0_1 (y290 ++ l0_2)) else (none))) else (some (0, 0, ([] : List Bool), 1)))) = some (r1, r2, r3, r4) := h
 clear h
 replace H := Option.bind_eq_some_iff.mp H
 obtain ⟨t289, A30, H⟩ := H
 replace H : (if t289 = true then ((some (([] : List Bool) : List Bool)).bind fun y290 => (if y290.length + l0_2.length < 140737488355328 then (barscanref31_Turn.l0 k a1 0 a0_0 a0_1 l0_2 a0_0 a0_1 (y290 ++ l0_2)) else (none))) else (some (0, 0, ([] : List Bool), 1))) = some (r1, r2, r3, r4) := H
 have A3 := Aside0.mk A30
 clear A30
 by_cases c4 : t289 = true
 ·subst c4
  have H1 : ((some (([] : List Bool) : List Bool)).bind fun y290 => (if y290.length + l0_2.length < 140737488355328 then (barscanref31_Turn.l0 k a1 0 a0_0 a0_1 l0_2 a0_0 a0_1 (y290 ++ l0_2)) else (none))) = some (r1, r2, r3, r4) := by rw [if_pos rfl] at H; exact H
  clear H
  have H := H1
  clear H1
  obtain ⟨y290, hy290⟩ : ∃ y_ : List Bool, y_ = (([] : List Bool)) := ⟨_, rfl⟩
  replace H : (if y290.length + l0_2.length < 140737488355328 then (barscanref31_Turn.l0 k a1 0 a0_0 a0_1 l0_2 a0_0 a0_1 (y290 ++ l0_2)) else (none)) = some (r1, r2, r3, r4) := by first | (rw [hy290]; with_reducible exact H) | (have H2_ := (Option.bind_some _ _).symm.trans H; rw [hy290]; with_reducible exact H2_) | (have H2_ := (Option.bind_some _ _).symm.trans H; with_reducible exact H2_) | with_reducible exact H | (rw [hy290]; exact H) | exact H
  have Ny290 := Aside0.mk hy290
  clear hy290
  by_cases c5 : y290.length + l0_2.length < 140737488355328
  ·rw [if_pos c5] at H
   have LMc5 := Aside0.mk c5
   clear c5
   obtain ⟨y293, hy293⟩ : ∃ y_ : List Bool, y_ = (y290 ++ l0_2) := ⟨_, rfl⟩
   replace H : (barscanref31_Turn.l0 k a1 0 a0_0 a0_1 l0_2 a0_0 a0_1 y293) = some (r1, r2, r3, r4) := by first | (rw [hy293]; with_reducible exact H) | (have H2_ := (Option.bind_some _ _).symm.trans H; rw [hy293]; with_reducible exact H2_) | (have H2_ := (Option.bind_some _ _).symm.trans H; with_reducible exact H2_) | with_reducible exact H | (rw [hy293]; exact H) | exact H
   have Ny293 := Aside0.mk hy293
   clear hy293
   have H' := Aside0.mk H
   clear H
   go_enter Try.func49, Try.ntmps49
   try go_wp2_with (first | ((with_reducible refine gate_dst (N := 2) rfl ?_); refine box_event ?hg (N := 2) ?hd (cs := #[.int .i64 a0_0, .int .i64 a0_1, .slice A0_2 l0_2.length c0_2]) (t := 33) ?hr ?_; (case hd => rfl); (case hg => rfl); (case hr => first | (go_simp; done) | (go_simp; rfl)); intro gb287 hg w6 hbox hb; have n0_ := Aside0.mk (below_step (hb0 HB) hb); have n1_ := Aside0.mk (hbox); have n2_ := Aside0.mk ((by rw [hg]; exact (below_size (hb0 HB)) : w.heap.size ≤ gb287)); have n3_ := Aside0.mk ((by rw [hg]; exact (below_size (hb0 HB)) : w.heap.size ≤ gb287)); clear HB; have HB := n0_; have BK287 := n1_; have GW287 := n2_; have GE287 := n3_; clear n0_ n1_ n2_ n3_; clear hb hbox hg) | ((with_reducible refine gate_dst (N := 4) rfl ?_); refine box_event ?hg (N := 4) ?hd (cs := #[.int .i64 0, .int .i64 0, .slice none 0 0]) (t := 33) ?hr ?_; (case hd => rfl); (case hg => rfl); (case hr => first | (go_simp; done) | (go_simp; rfl)); intro gb288 hg w7 hbox hb; have n0_ := Aside0.mk (blk_below (bkx BK287) hb); have n1_ := Aside0.mk (below_step (hb1 HB GE287) hb); have n2_ := Aside0.mk (hbox); have n3_ := Aside0.mk ((by rw [hg]; exact (below_size (hb1 HB GE287)) : w.heap.size ≤ gb288)); have n4_ := Aside0.mk ((by rw [hg]; exact (below_size (hb1 HB GE287)) : w.heap.size ≤ gb288)); have n5_ := Aside0.mk (nel hg BK287 : gb287 ≠ gb288); have n6_ := Aside0.mk (neg hg BK287 : gb288 ≠ gb287); clear BK287; clear HB; have BK287 := n0_; have HB := n1_; have BK288 := n2_; have GW288 := n3_; have GE288 := n4_; have NB287_288 := n5_; have NB288_287 := n6_; clear n0_ n1_ n2_ n3_ n4_ n5_ n6_; clear hb hbox hg; have hnb8 := NB287_288.out; have hnc8 := NB288_287.out; have hcz9_0 : w7.cell? ⟨gb287, 0, none⟩ = some (.int .i64 a0_0) := (blk_cell BK287.out 0).trans rfl; have hcz9_1 : w7.cell? ⟨gb287, 1, none⟩ = some (.int .i64 a0_1) := (blk_cell BK287.out 1).trans rfl; have hcz9_2 : w7.cell? ⟨gb287, 2, none⟩ = some (.slice A0_2 l0_2.length c0_2) := (blk_cell BK287.out 2).trans rfl; have hfz9_0 := blk_frozen BK287.out 0; have hfz9_1 := blk_frozen BK287.out 1; have hfz9_2 := blk_frozen BK287.out 2) | ((with_reducible refine gate_callee (f := 41) rfl ?_); refine goesL_ (some 11) rfl rfl Try.func41 (by kernel_rfl) rfl #[.agg #[.int .i64 a0_0, .int .i64 a0_1, .slice A0_2 l0_2.length c0_2]] rfl mapx ?_; (with_reducible refine (barscanref31_Valid.calls a0_0 a0_1 _ _ l0_2 true _ ?side1 ?side2 A3.out).mono ?_); (case side1 => repeat (first | exact (Kd.C_below HR0_2.out HB.out) | (with_reducible refine Kd.C_alloc ?_ _) | (with_reducible refine Kd.C_drewN ?_ _) | (with_reducible refine Kd.C_drew ?_))); (case side2 => exact HC0_2.out); rintro e w10 ⟨rfl, hb⟩; refine ⟨_, rfl, ?_⟩; have n0_ := Aside0.mk (blk_below (bkx BK287) hb); have n1_ := Aside0.mk (blk_below (bkx BK288) hb); have n2_ := Aside0.mk (below_step (hb2 HB GE287 GE288) hb); clear BK287; clear BK288; clear HB; have BK287 := n0_; have BK288 := n1_; have HB := n2_; clear n0_ n1_ n2_; (try clear hb); (try clear hb2); (try clear hk); (try clear hi)))
   have n0_ := Aside0.mk (blk_drew BK287.out)
   have n1_ := Aside0.mk (blk_drew BK288.out)
   have n2_ := Aside0.mk (below_drew1 HB.out)
   clear BK287
   clear BK288
   clear HB
   have BK287 := n0_
   have BK288 := n1_
   have HB := n2_
   clear n0_ n1_ n2_
   refine start_ (n := 11) (S := fun w' => w'.cell? ⟨gb287, 0, none⟩ = some (.int .i64 a0_0) ∧ w'.cell? ⟨gb287, 1, none⟩ = some (.int .i64 a0_1) ∧ w'.cell? ⟨gb287, 2, none⟩ = some (.slice A0_2 l0_2.length c0_2)) (ds := []) (bA 11 0) (by kernel_rfl) rfl rfl ⟨(blk_cell BK287.out 0).trans rfl, (blk_cell BK287.out 1).trans rfl, (blk_cell BK287.out 2).trans rfl⟩ (fun hHeld => ?_); refine with_tabW barscanref31_Turn.tab3 barscanref31_Turn.bits3 (fun HT_ HW_ => ?_)
   generalize w10.drew = w11 at BK287 BK288 HB hHeld ⊢
   refine pt HT_ 0 14 ?_
   refine pt HT_ 2 16 ?_
   refine pt HT_ 5 19 ?_
   refine tk HT_ HW_ hHeld 1 15 ?_
   refine tk HT_ HW_ hHeld 3 17 ?_
   refine tk HT_ HW_ hHeld 6 20 ?_
   refine join_ (σ := Value × Value × Nat) 1 (bA 11 1023) (fun s_ => [(18, s_.1), (21, s_.2.1), (6, .pointer (some ⟨s_.2.2, 0, none⟩)), (22, .agg #[.int .i64 a0_0, .int .i64 a0_1, s_.2.1])]) (fun s_ w' => (w'.cell? ⟨gb287, 0, none⟩ = some (.int .i64 a0_0) ∧ w'.cell? ⟨gb287, 1, none⟩ = some (.int .i64 a0_1) ∧ w'.cell? ⟨gb287, 2, none⟩ = some (.slice A0_2 l0_2.length c0_2)) ∧ (Kd.R Kd.bool 4 w' w.heap.size (fun _ => True) s_.2.1 y293) ∧ (w'.heap[gb287]? = some (.cells #[.int .i64 a0_0, .int .i64 a0_1, .slice A0_2 l0_2.length c0_2] 33 (0, 0))) ∧ (w'.heap[gb288]? = some (.cells #[.int .i64 0, .int .i64 0, .slice none 0 0] 33 (0, 0))) ∧ (w'.heap[s_.2.2]? = some (.cells #[.int .i64 0, .int .i64 0, .slice none 0 0] 33 (0, 0))) ∧ (w.heap.size ≤ s_.2.2) ∧ (w.heap.size ≤ s_.2.2) ∧ (gb287 ≠ s_.2.2) ∧ (s_.2.2 ≠ gb287) ∧ (gb288 ≠ s_.2.2) ∧ (s_.2.2 ≠ gb288) ∧ (Below w.heap.size w w')) ?_ ?_
   rotate_left
   ·intro hCont
    refine two_ (i := 4) (j := 9) (Ni := some 18) (Nj := some 6) (bA 11 127) (bA 11 623) rfl rfl rfl rfl (two_of HT_.out (by kernel_rfl)) (by decide) (by decide) (fun K hK => ?_) (fun K hK => ?_)
    ·skip
     refine Kd.R_lit_step Kd.bool _ 4 ?hg (N := 18) ?hd (xs := ([] : List Bool)) (inner := []) (ok := fun _ => True) (okp := fun _ => True) ?hr ?hp (fun _ hk => hk) trivial (Below.refl _ _) (Nat.le_refl _) (by simp) ?_; (case hd => rfl); (case hg => rfl); (case hr => first | (go_simp; done) | (go_simp; rfl)); (case hp => exact (Reps.none _ _))
     intro v291 w12 ho13 hb hg_ hnew_
     clear hg_ hnew_
     (first | rw [← Ny290.out] at ho13 | (simp only [Int.reduceToNat] at ho13; rw [← Ny290.out] at ho13))
     have n0_ := Aside0.mk (Kd.R_lower ho13 (below_size (hb2 HB GE287 GE288)))
     have n1_ := Aside0.mk (blk_below (bkx BK287) hb)
     have n2_ := Aside0.mk (blk_below (bkx BK288) hb)
     have n3_ := Aside0.mk (below_step (hb2 HB GE287 GE288) hb)
     clear BK287
     clear BK288
     clear HB
     have HO292 := n0_
     have BK287 := n1_
     have BK288 := n2_
     have HB := n3_
     clear n0_ n1_ n2_ n3_
     clear hb ho13
     refine hK.out _ _ ⟨(blk_cell BK287.out 0).trans rfl, (blk_cell BK287.out 1).trans rfl, (blk_cell BK287.out 2).trans rfl⟩ (fun hHeld => ?_)
     clear hK K
     refine norm_ (a' := ?_) ?_ ?_
     rotate_left
     ·show Act.put _ (some 18) _ = _
      simp only [Act.put, List.setIfInBounds_toArray, List.set_cons_zero, List.set_cons_succ, i64_w, i32_w]
      rfl
     refine two_ (i := 7) (j := 9) (Ni := some 21) (Nj := some 6) (bA 11 255) (bA 11 639) rfl rfl rfl rfl (two_of HT_.out (by kernel_rfl)) (by decide) (by decide) (fun K hK => ?_) (fun K hK => ?_)
     ·skip
      refine Kd.R_append_rows_step Kd.bool (w0 := w) w.heap.size (by rfl) (.tmp 18) (.tmp 20) 31 4 (.bool false) 1 rfl Try.underlying31 info4 rfl (by decide) (by omega) v291 y290 l0_2 _ _ _ (fun _ => True) (fun _ => False) rfl rfl ?aO ?aR (fun _ _ h => h) (fun _ h => h.elim) ?aF ?aB ?aS ?aL ?_
      (case aR => repeat (first | exact (Kd.C_below HR0_2.out HB.out) | (with_reducible refine Kd.C_alloc ?_ _) | (with_reducible refine Kd.C_drewN ?_ _) | (with_reducible refine Kd.C_drew ?_)))
      (case aB => exact (hb2 HB GE287 GE288))
      (case aF => exact (fun _ _ => trivial))
      (case aO => exact (rkx HO292))
      (case aS => exact (below_size (hb2 HB GE287 GE288)))
      (case aL => have := LMc5.out; omega)
      intro v294 w14 ho hb hg hat
      rw [← Ny293.out] at ho
      have n0_ := Aside0.mk (blk_grown (g := gb287) (o := .cells #[.int .i64 a0_0, .int .i64 a0_1, .slice A0_2 l0_2.length c0_2] 33 (0, 0)) (bkx BK287) hg (Kd.R_ne HO292.out BK287.out (by decide)))
      have n1_ := Aside0.mk (blk_grown (g := gb288) (o := .cells #[.int .i64 0, .int .i64 0, .slice none 0 0] 33 (0, 0)) (bkx BK288) hg (Kd.R_ne HO292.out BK288.out (by decide)))
      have n2_ := Aside0.mk (hb)
      have n3_ := Aside0.mk (ho)
      clear BK287
      clear BK288
      clear HB
      clear HO292
      have BK287 := n0_
      have BK288 := n1_
      have HB := n2_
      have HO295 := n3_
      clear n0_ n1_ n2_ n3_
      clear ho hb hg hat
      obtain ⟨Ao15, co15, eo15⟩ := Kd.R_slice HO295.out
      (first | subst eo15 | (injection eo15 with f1_ f2_ f3_; have f4_ := f1_.symm; have f5_ := f3_.symm; clear f1_ f2_ f3_; subst f4_; subst f5_))
      refine hK.out _ _ ⟨(blk_cell BK287.out 0).trans rfl, (blk_cell BK287.out 1).trans rfl, (blk_cell BK287.out 2).trans rfl⟩ (fun hHeld => ?_)
      clear hK K
      refine norm_ (a' := ?_) ?_ ?_
      rotate_left
      ·show Act.put _ (some 21) _ = _
       simp only [Act.put, List.setIfInBounds_toArray, List.set_cons_zero, List.set_cons_succ, i64_w, i32_w]
       rfl
      refine pt HT_ 8 22 ?_
      refine one_ (i := 9) (N := some 6) (bA 11 1023) rfl rfl (one_of HT_.out (by kernel_rfl)) (by decide) (fun K hK => ?_)
      refine box_step ?hg (N := 6) ?hd (cs := #[.int .i64 0, .int .i64 0, .slice none 0 0]) (t := 33) ?hr ?_; (case hd => rfl); (case hg => rfl); (case hr => first | (go_simp; done) | (go_simp; rfl))
      intro gb296 hg w16 hbox hb
      have n0_ := Aside0.mk (Kd.R_below (rkx HO295) hb)
      have n1_ := Aside0.mk (blk_below (bkx BK287) hb)
      have n2_ := Aside0.mk (blk_below (bkx BK288) hb)
      have n3_ := Aside0.mk (below_step (hb2 HB GE287 GE288) hb)
      have n4_ := Aside0.mk (hbox)
      have n5_ := Aside0.mk ((by rw [hg]; exact (below_size (hb2 HB GE287 GE288)) : w.heap.size ≤ gb296))
      have n6_ := Aside0.mk ((by rw [hg]; exact (below_size (hb2 HB GE287 GE288)) : w.heap.size ≤ gb296))
      have n7_ := Aside0.mk (nel hg BK287 : gb287 ≠ gb296)
      have n8_ := Aside0.mk (neg hg BK287 : gb296 ≠ gb287)
      have n9_ := Aside0.mk (nel hg BK288 : gb288 ≠ gb296)
      have n10_ := Aside0.mk (neg hg BK288 : gb296 ≠ gb288)
      clear HO295
      clear BK287
      clear BK288
      clear HB
      have HO295 := n0_
      have BK287 := n1_
      have BK288 := n2_
      have HB := n3_
      have BK296 := n4_
      have GW296 := n5_
      have GE296 := n6_
      have NB287_296 := n7_
      have NB296_287 := n8_
      have NB288_296 := n9_
      have NB296_288 := n10_
      clear n0_ n1_ n2_ n3_ n4_ n5_ n6_ n7_ n8_ n9_ n10_
      clear hb hbox hg
      refine hK.out _ _ ⟨(blk_cell BK287.out 0).trans rfl, (blk_cell BK287.out 1).trans rfl, (blk_cell BK287.out 2).trans rfl⟩ (fun hHeld => ?_)
      clear hK K
      refine norm_ (a' := ?_) ?_ ?_
      rotate_left
      ·show Act.put _ (some 6) _ = _
       simp only [Act.put, List.setIfInBounds_toArray, List.set_cons_zero, List.set_cons_succ, i64_w, i32_w]
       rfl
      exact norm_ (by simp only [putAll, Act.put, List.setIfInBounds_toArray, List.set_cons_zero, List.set_cons_succ]) (hCont (v291, .slice Ao15 y293.length co15, gb296) _ ⟨hHeld, (rkx HO295), (bkx BK287), (bkx BK288), (bkx BK296), GW296.out, GE296.out, NB287_296.out, NB296_287.out, NB288_296.out, NB296_288.out, (hb3 HB GE287 GE288 GE296)⟩)
     ·skip
      refine box_step ?hg (N := 6) ?hd (cs := #[.int .i64 0, .int .i64 0, .slice none 0 0]) (t := 33) ?hr ?_; (case hd => rfl); (case hg => rfl); (case hr => first | (go_simp; done) | (go_simp; rfl))
      intro gb296 hg w14 hbox hb
      have n0_ := Aside0.mk (Kd.R_below (rkx HO292) hb)
      have n1_ := Aside0.mk (blk_below (bkx BK287) hb)
      have n2_ := Aside0.mk (blk_below (bkx BK288) hb)
      have n3_ := Aside0.mk (below_step (hb2 HB GE287 GE288) hb)
      have n4_ := Aside0.mk (hbox)
      have n5_ := Aside0.mk ((by rw [hg]; exact (below_size (hb2 HB GE287 GE288)) : w.heap.size ≤ gb296))
      have n6_ := Aside0.mk ((by rw [hg]; exact (below_size (hb2 HB GE287 GE288)) : w.heap.size ≤ gb296))
      have n7_ := Aside0.mk (nel hg BK287 : gb287 ≠ gb296)
      have n8_ := Aside0.mk (neg hg BK287 : gb296 ≠ gb287)
      have n9_ := Aside0.mk (nel hg BK288 : gb288 ≠ gb296)
      have n10_ := Aside0.mk (neg hg BK288 : gb296 ≠ gb288)
      clear HO292
      clear BK287
      clear BK288
      clear HB
      have HO292 := n0_
      have BK287 := n1_
      have BK288 := n2_
      have HB := n3_
      have BK296 := n4_
      have GW296 := n5_
      have GE296 := n6_
      have NB287_296 := n7_
      have NB296_287 := n8_
      have NB288_296 := n9_
      have NB296_288 := n10_
      clear n0_ n1_ n2_ n3_ n4_ n5_ n6_ n7_ n8_ n9_ n10_
      clear hb hbox hg
      refine hK.out _ _ ⟨(blk_cell BK287.out 0).trans rfl, (blk_cell BK287.out 1).trans rfl, (blk_cell BK287.out 2).trans rfl⟩ (fun hHeld => ?_)
      clear hK K
      refine norm_ (a' := ?_) ?_ ?_
      rotate_left
      ·show Act.put _ (some 6) _ = _
       simp only [Act.put, List.setIfInBounds_toArray, List.set_cons_zero, List.set_cons_succ, i64_w, i32_w]
       rfl
      refine one_ (i := 7) (N := some 21) (bA 11 767) rfl rfl (one_of HT_.out (by kernel_rfl)) (by decide) (fun K hK => ?_)
      refine Kd.R_append_rows_step Kd.bool (w0 := w) w.heap.size (by rfl) (.tmp 18) (.tmp 20) 31 4 (.bool false) 1 rfl Try.underlying31 info4 rfl (by decide) (by omega) v291 y290 l0_2 _ _ _ (fun _ => True) (fun _ => False) rfl rfl ?aO ?aR (fun _ _ h => h) (fun _ h => h.elim) ?aF ?aB ?aS ?aL ?_
      (case aR => repeat (first | exact (Kd.C_below HR0_2.out HB.out) | (with_reducible refine Kd.C_alloc ?_ _) | (with_reducible refine Kd.C_drewN ?_ _) | (with_reducible refine Kd.C_drew ?_)))
      (case aB => exact (hb3 HB GE287 GE288 GE296))
      (case aF => exact (fun _ _ => trivial))
      (case aO => exact (rkx HO292))
      (case aS => exact (below_size (hb3 HB GE287 GE288 GE296)))
      (case aL => have := LMc5.out; omega)
      intro v294 w15 ho hb hg hat
      rw [← Ny293.out] at ho
      have n0_ := Aside0.mk (blk_grown (g := gb287) (o := .cells #[.int .i64 a0_0, .int .i64 a0_1, .slice A0_2 l0_2.length c0_2] 33 (0, 0)) (bkx BK287) hg (Kd.R_ne HO292.out BK287.out (by decide)))
      have n1_ := Aside0.mk (blk_grown (g := gb288) (o := .cells #[.int .i64 0, .int .i64 0, .slice none 0 0] 33 (0, 0)) (bkx BK288) hg (Kd.R_ne HO292.out BK288.out (by decide)))
      have n2_ := Aside0.mk (blk_grown (g := gb296) (o := .cells #[.int .i64 0, .int .i64 0, .slice none 0 0] 33 (0, 0)) (bkx BK296) hg (Kd.R_ne HO292.out BK296.out (by decide)))
      have n3_ := Aside0.mk (hb)
      have n4_ := Aside0.mk (ho)
      clear BK287
      clear BK288
      clear BK296
      clear HB
      clear HO292
      have BK287 := n0_
      have BK288 := n1_
      have BK296 := n2_
      have HB := n3_
      have HO295 := n4_
      clear n0_ n1_ n2_ n3_ n4_
      clear ho hb hg hat
      obtain ⟨Ao16, co16, eo16⟩ := Kd.R_slice HO295.out
      (first | subst eo16 | (injection eo16 with f1_ f2_ f3_; have f4_ := f1_.symm; have f5_ := f3_.symm; clear f1_ f2_ f3_; subst f4_; subst f5_))
      refine hK.out _ _ ⟨(blk_cell BK287.out 0).trans rfl, (blk_cell BK287.out 1).trans rfl, (blk_cell BK287.out 2).trans rfl⟩ (fun hHeld => ?_)
      clear hK K
      refine norm_ (a' := ?_) ?_ ?_
      rotate_left
      ·show Act.put _ (some 21) _ = _
       simp only [Act.put, List.setIfInBounds_toArray, List.set_cons_zero, List.set_cons_succ, i64_w, i32_w]
       rfl
      refine pt HT_ 8 22 ?_
      exact norm_ (by simp only [putAll, Act.put, List.setIfInBounds_toArray, List.set_cons_zero, List.set_cons_succ]) (hCont (v291, .slice Ao16 y293.length co16, gb296) _ ⟨hHeld, (rkx HO295), (bkx BK287), (bkx BK288), (bkx BK296), GW296.out, GE296.out, NB287_296.out, NB296_287.out, NB288_296.out, NB296_288.out, (hb3 HB GE287 GE288 GE296)⟩)
    ·skip
     refine box_step ?hg (N := 6) ?hd (cs := #[.int .i64 0, .int .i64 0, .slice none 0 0]) (t := 33) ?hr ?_; (case hd => rfl); (case hg => rfl); (case hr => first | (go_simp; done) | (go_simp; rfl))
     intro gb296 hg w12 hbox hb
     have n0_ := Aside0.mk (blk_below (bkx BK287) hb)
     have n1_ := Aside0.mk (blk_below (bkx BK288) hb)
     have n2_ := Aside0.mk (below_step (hb2 HB GE287 GE288) hb)
     have n3_ := Aside0.mk (hbox)
     have n4_ := Aside0.mk ((by rw [hg]; exact (below_size (hb2 HB GE287 GE288)) : w.heap.size ≤ gb296))
     have n5_ := Aside0.mk ((by rw [hg]; exact (below_size (hb2 HB GE287 GE288)) : w.heap.size ≤ gb296))
     have n6_ := Aside0.mk (nel hg BK287 : gb287 ≠ gb296)
     have n7_ := Aside0.mk (neg hg BK287 : gb296 ≠ gb287)
     have n8_ := Aside0.mk (nel hg BK288 : gb288 ≠ gb296)
     have n9_ := Aside0.mk (neg hg BK288 : gb296 ≠ gb288)
     clear BK287
     clear BK288
     clear HB
     have BK287 := n0_
     have BK288 := n1_
     have HB := n2_
     have BK296 := n3_
     have GW296 := n4_
     have GE296 := n5_
     have NB287_296 := n6_
     have NB296_287 := n7_
     have NB288_296 := n8_
     have NB296_288 := n9_
     clear n0_ n1_ n2_ n3_ n4_ n5_ n6_ n7_ n8_ n9_
     clear hb hbox hg
     refine hK.out _ _ ⟨(blk_cell BK287.out 0).trans rfl, (blk_cell BK287.out 1).trans rfl, (blk_cell BK287.out 2).trans rfl⟩ (fun hHeld => ?_)
     clear hK K
     refine norm_ (a' := ?_) ?_ ?_
     rotate_left
     ·show Act.put _ (some 6) _ = _
      simp only [Act.put, List.setIfInBounds_toArray, List.set_cons_zero, List.set_cons_succ, i64_w, i32_w]
      rfl
     refine one_ (i := 4) (N := some 18) (bA 11 639) rfl rfl (one_of HT_.out (by kernel_rfl)) (by decide) (fun K hK => ?_)
     refine Kd.R_lit_step Kd.bool _ 4 ?hg (N := 18) ?hd (xs := ([] : List Bool)) (inner := []) (ok := fun _ => True) (okp := fun _ => True) ?hr ?hp (fun _ hk => hk) trivial (Below.refl _ _) (Nat.le_refl _) (by simp) ?_; (case hd => rfl); (case hg => rfl); (case hr => first | (go_simp; done) | (go_simp; rfl)); (case hp => exact (Reps.none _ _))
     intro v291 w13 ho14 hb hg_ hnew_
     clear hg_ hnew_
     (first | rw [← Ny290.out] at ho14 | (simp only [Int.reduceToNat] at ho14; rw [← Ny290.out] at ho14))
     have n0_ := Aside0.mk (Kd.R_lower ho14 (below_size (hb3 HB GE287 GE288 GE296)))
     have n1_ := Aside0.mk (blk_below (bkx BK287) hb)
     have n2_ := Aside0.mk (blk_below (bkx BK288) hb)
     have n3_ := Aside0.mk (blk_below (bkx BK296) hb)
     have n4_ := Aside0.mk (below_step (hb3 HB GE287 GE288 GE296) hb)
     clear BK287
     clear BK288
     clear BK296
     clear HB
     have HO292 := n0_
     have BK287 := n1_
     have BK288 := n2_
     have BK296 := n3_
     have HB := n4_
     clear n0_ n1_ n2_ n3_ n4_
     clear hb ho14
     refine hK.out _ _ ⟨(blk_cell BK287.out 0).trans rfl, (blk_cell BK287.out 1).trans rfl, (blk_cell BK287.out 2).trans rfl⟩ (fun hHeld => ?_)
     clear hK K
     refine norm_ (a' := ?_) ?_ ?_
     rotate_left
     ·show Act.put _ (some 18) _ = _
      simp only [Act.put, List.setIfInBounds_toArray, List.set_cons_zero, List.set_cons_succ, i64_w, i32_w]
      rfl
     refine one_ (i := 7) (N := some 21) (bA 11 767) rfl rfl (one_of HT_.out (by kernel_rfl)) (by decide) (fun K hK => ?_)
     refine Kd.R_append_rows_step Kd.bool (w0 := w) w.heap.size (by rfl) (.tmp 18) (.tmp 20) 31 4 (.bool false) 1 rfl Try.underlying31 info4 rfl (by decide) (by omega) v291 y290 l0_2 _ _ _ (fun _ => True) (fun _ => False) rfl rfl ?aO ?aR (fun _ _ h => h) (fun _ h => h.elim) ?aF ?aB ?aS ?aL ?_
     (case aR => repeat (first | exact (Kd.C_below HR0_2.out HB.out) | (with_reducible refine Kd.C_alloc ?_ _) | (with_reducible refine Kd.C_drewN ?_ _) | (with_reducible refine Kd.C_drew ?_)))
     (case aB => exact (hb3 HB GE287 GE288 GE296))
     (case aF => exact (fun _ _ => trivial))
     (case aO => exact (rkx HO292))
     (case aS => exact (below_size (hb3 HB GE287 GE288 GE296)))
     (case aL => have := LMc5.out; omega)
     intro v294 w15 ho hb hg hat
     rw [← Ny293.out] at ho
     have n0_ := Aside0.mk (blk_grown (g := gb287) (o := .cells #[.int .i64 a0_0, .int .i64 a0_1, .slice A0_2 l0_2.length c0_2] 33 (0, 0)) (bkx BK287) hg (Kd.R_ne HO292.out BK287.out (by decide)))
     have n1_ := Aside0.mk (blk_grown (g := gb288) (o := .cells #[.int .i64 0, .int .i64 0, .slice none 0 0] 33 (0, 0)) (bkx BK288) hg (Kd.R_ne HO292.out BK288.out (by decide)))
     have n2_ := Aside0.mk (blk_grown (g := gb296) (o := .cells #[.int .i64 0, .int .i64 0, .slice none 0 0] 33 (0, 0)) (bkx BK296) hg (Kd.R_ne HO292.out BK296.out (by decide)))
     have n3_ := Aside0.mk (hb)
     have n4_ := Aside0.mk (ho)
     clear BK287
     clear BK288
     clear BK296
     clear HB
     clear HO292
     have BK287 := n0_
     have BK288 := n1_
     have BK296 := n2_
     have HB := n3_
     have HO295 := n4_
     clear n0_ n1_ n2_ n3_ n4_
     clear ho hb hg hat
     obtain ⟨Ao16, co16, eo16⟩ := Kd.R_slice HO295.out
     (first | subst eo16 | (injection eo16 with f1_ f2_ f3_; have f4_ := f1_.symm; have f5_ := f3_.symm; clear f1_ f2_ f3_; subst f4_; subst f5_))
     refine hK.out _ _ ⟨(blk_cell BK287.out 0).trans rfl, (blk_cell BK287.out 1).trans rfl, (blk_cell BK287.out 2).trans rfl⟩ (fun hHeld => ?_)
     clear hK K
     refine norm_ (a' := ?_) ?_ ?_
     rotate_left
     ·show Act.put _ (some 21) _ = _
      simp only [Act.put, List.setIfInBounds_toArray, List.set_cons_zero, List.set_cons_succ, i64_w, i32_w]
      rfl
     refine pt HT_ 8 22 ?_
     exact norm_ (by simp only [putAll, Act.put, List.setIfInBounds_toArray, List.set_cons_zero, List.set_cons_succ]) (hCont (v291, .slice Ao16 y293.length co16, gb296) _ ⟨hHeld, (rkx HO295), (bkx BK287), (bkx BK288), (bkx BK296), GW296.out, GE296.out, NB287_296.out, NB296_287.out, NB288_296.out, NB296_288.out, (hb3 HB GE287 GE288 GE296)⟩)
   rintro ⟨v291, v294, gb296⟩ w17 ⟨hS_, h0_, h1_, h2_, h3_, h4_, h5_, h6_, h7_, h8_, h9_, h10_⟩
   have n0_ : Aside0 (Kd.R Kd.bool 4 w17 w.heap.size (fun _ => True) v294 y293) := ⟨h0_⟩
   have n1_ : Aside0 (w17.heap[gb287]? = some (.cells #[.int .i64 a0_0, .int .i64 a0_1, .slice A0_2 l0_2.length c0_2] 33 (0, 0))) := ⟨h1_⟩
   have n2_ : Aside0 (w17.heap[gb288]? = some (.cells #[.int .i64 0, .int .i64 0, .slice none 0 0] 33 (0, 0))) := ⟨h2_⟩
   have n3_ : Aside0 (w17.heap[gb296]? = some (.cells #[.int .i64 0, .int .i64 0, .slice none 0 0] 33 (0, 0))) := ⟨h3_⟩
   have n4_ : Aside0 (w.heap.size ≤ gb296) := ⟨h4_⟩
   have n5_ : Aside0 (w.heap.size ≤ gb296) := ⟨h5_⟩
   have n6_ : Aside0 (gb287 ≠ gb296) := ⟨h6_⟩
   have n7_ : Aside0 (gb296 ≠ gb287) := ⟨h7_⟩
   have n8_ : Aside0 (gb288 ≠ gb296) := ⟨h8_⟩
   have n9_ : Aside0 (gb296 ≠ gb288) := ⟨h9_⟩
   have n10_ : Aside0 (Below w.heap.size w w17) := ⟨h10_⟩
   clear BK287
   clear BK288
   clear HB
   clear h0_ h1_ h2_ h3_ h4_ h5_ h6_ h7_ h8_ h9_ h10_
   have HO295 := n0_
   have BK287 := n1_
   have BK288 := n2_
   have BK296 := n3_
   have GW296 := n4_
   have GE296 := n5_
   have NB287_296 := n6_
   have NB296_287 := n7_
   have NB288_296 := n8_
   have NB296_288 := n9_
   have HB := n10_
   clear n0_ n1_ n2_ n3_ n4_ n5_ n6_ n7_ n8_ n9_ n10_
   have hHeld : w17.cell? ⟨gb287, 0, none⟩ = some (.int .i64 a0_0) ∧ w17.cell? ⟨gb287, 1, none⟩ = some (.int .i64 a0_1) ∧ w17.cell? ⟨gb287, 2, none⟩ = some (.slice A0_2 l0_2.length c0_2) := hS_
   obtain ⟨Ao18, co18, eo18⟩ := Kd.R_slice HO295.out
   (first | subst eo18 | (injection eo18 with f1_ f2_ f3_; have f4_ := f1_.symm; have f5_ := f3_.symm; clear f1_ f2_ f3_; subst f4_; subst f5_))
   refine norm_ (a' := ?_) ?_ ?_
   rotate_left
   ·simp only [putAll, Act.put, List.setIfInBounds_toArray, List.set_cons_zero, List.set_cons_succ]
    rfl
   refine one_ (i := 10) (N := none) (bA 11 2047) rfl rfl (one_of HT_.out (by kernel_rfl)) (by decide) (fun K hK => ?_)
   have hs19 : w17.cell? ⟨gb296, 0, none⟩ = some (.int .i64 0) := (blk_cell BK296.out 0).trans rfl
   have hfs19 := blk_frozen BK296.out 0
   have hns19_0 := NB287_296.out
   have hns19_1 := NB288_296.out
   have hms19_0 := NB296_287.out
   have hms19_1 := NB296_288.out
   have hs20 : w17.cell? ⟨gb296, 1, none⟩ = some (.int .i64 0) := (blk_cell BK296.out 1).trans rfl
   have hfs20 := blk_frozen BK296.out 1
   have hns20_0 := NB287_296.out
   have hns20_1 := NB288_296.out
   have hms20_0 := NB296_287.out
   have hms20_1 := NB296_288.out
   have hs21 : w17.cell? ⟨gb296, 2, none⟩ = some (.slice none 0 0) := (blk_cell BK296.out 2).trans rfl
   have hfs21 := blk_frozen BK296.out 2
   have hns21_0 := NB287_296.out
   have hns21_1 := NB288_296.out
   have hms21_0 := NB296_287.out
   have hms21_1 := NB296_288.out
   refine skip_ (w1 := ?_) (by rfl) rfl ?_ ?_
   rotate_left
   ·go_simp
    rfl
   refine hK.out _ _ ⟨((cell_far (p := ⟨gb296, _, none⟩) NB287_296.out _).trans (((cell_far (p := ⟨gb296, _, none⟩) NB287_296.out _).trans (((cell_far (p := ⟨gb296, _, none⟩) NB287_296.out _).trans (hHeld.1)))))), ((cell_far (p := ⟨gb296, _, none⟩) NB287_296.out _).trans (((cell_far (p := ⟨gb296, _, none⟩) NB287_296.out _).trans (((cell_far (p := ⟨gb296, _, none⟩) NB287_296.out _).trans (hHeld.2.1)))))), ((cell_far (p := ⟨gb296, _, none⟩) NB287_296.out _).trans (((cell_far (p := ⟨gb296, _, none⟩) NB287_296.out _).trans (((cell_far (p := ⟨gb296, _, none⟩) NB287_296.out _).trans (hHeld.2.2))))))⟩ (fun hHeld => ?_)
   clear hK K
   refine done_ (done_of HT_.out (by kernel_rfl)) ?_
   try go_wp2
   go_loopg [7] k (fun kq v7 w' => ∃ (x7_1 : Int) (x297000_1 : Int) (x297001_1 : Int) (x297002_1 : List Bool) (u297002 : Value), v7 = .int .i64 x7_1 ∧ Aside0 (barscanref31_Turn.l0 kq a1 x7_1 a0_0 a0_1 l0_2 x297000_1 x297001_1 x297002_1 = some (r1, r2, r3, r4)) ∧ Aside0 (kq ≤ k) ∧ Aside0 (Kd.R Kd.bool 4 w' w.heap.size (fun _ => True) u297002 x297002_1) ∧ Aside0 (w'.heap[gb287]? = some (.cells #[.int .i64 a0_0, .int .i64 a0_1, (.slice A0_2 l0_2.length c0_2)] 33 (0, 0))) ∧ Aside0 (w'.heap[gb288]? = some (.cells #[.int .i64 0, .int .i64 0, (.slice none 0 0)] 33 (0, 0))) ∧ Aside0 (w'.heap[gb296]? = some (.cells #[.int .i64 x297000_1, .int .i64 x297001_1, u297002] 33 (0, 0))) ∧ Aside0 (Below w.heap.size w w'))
   case atStart => exact ⟨(0), (a0_0), (a0_1), (y293), (.slice Ao18 y293.length co18), (by first | rfl | (simp; done) | (simp [*]; done)), H', ⟨Nat.le_refl _⟩, ⟨by refine rkt ?_; exact Kd.R_mono (Kd.R_far (p := ⟨gb296, 2, none⟩) (Kd.R_far (p := ⟨gb296, 1, none⟩) (Kd.R_far (p := ⟨gb296, 0, none⟩) (Kd.R_types HO295.out BK296.out (by decide)) (fun _ hk => hk.2) (.int .i64 a0_0)) (fun _ hk => hk.2) (.int .i64 a0_1)) (fun _ hk => hk.2) (.slice Ao18 y293.length co18)) (fun _ hk => trivial)⟩, ⟨bky BK287 NB287_296⟩, ⟨bky BK288 NB288_296⟩, ⟨by refine bkt ?_; refine blk_put (cs := #[.int .i64 a0_0, .int .i64 a0_1, .slice none 0 0]) ?_ 2 _ rfl; refine bkt ?_; refine blk_put (cs := #[.int .i64 a0_0, .int .i64 0, .slice none 0 0]) ?_ 1 _ rfl; refine bkt ?_; refine blk_put (cs := #[.int .i64 0, .int .i64 0, .slice none 0 0]) ?_ 0 _ rfl; refine bkt ?_; exact BK296.out⟩, ⟨hb3 HB GE287 GE288 GE296⟩⟩
   case round =>
    clear H'
    try clear p2
    try clear c4
    try clear c5
    try clear c8
    try clear hcz9_0
    try clear hcz9_1
    try clear hcz9_2
    try clear hfz9_0
    try clear hfz9_1
    try clear hfz9_2
    obtain ⟨x7_1, x297000_1, x297001_1, x297002_1, u297002, rfl, HA, HK1, HO_297002, BK287, BK288, BK296, HB⟩ := hrel
    cases gk with
    | zero => exact absurd HA.out (by simp [barscanref31_Turn.l0])
    | succ k1 =>
     have H := HA.out
     clear HA
     simp only [barscanref31_Turn.l0] at H
     replace H := Option.bind_eq_some_iff.mp H
     obtain ⟨t297, A220, H⟩ := H
     replace H : (if x7_1 < t297 then (barscanref31_Turn.l1 k1 a1 x7_1 0 a0_0 a0_1 l0_2 x297000_1 x297001_1 x297002_1 x297001_1 x297000_1 ([] : List Bool)) else (some (x297000_1, x297001_1, x297002_1, 0))) = some (r1, r2, r3, r4) := H
     have A22 := Aside0.mk A220
     clear A220
     by_cases c23 : x7_1 < t297
     ·rw [if_pos c23] at H
      have c23b0 : decide (x7_1 < t297) = true := decide_eq_true c23
      clear c23
      have H' := Aside0.mk H
      clear H
      go_wp2_with (first | ((with_reducible refine gate_callee (f := 60) rfl ?_); refine goesL_ (some 25) rfl rfl Try.func60 (by kernel_rfl) rfl #[.int .i64 a1] rfl mapx ?_; (with_reducible refine (barscanref31_quarters.calls a1 t297 _ A22.out).mono ?_); rintro e w' ⟨rfl, ⟨nd, rfl⟩⟩; refine ⟨_, rfl, ?_⟩; (try (rw [drewN_self wr]; generalize hq_ : World.drewN wr _ = wr; have n0_ : Aside0 (Kd.R Kd.bool 4 wr w.heap.size (fun _ => True) u297002 x297002_1) := ⟨by rw [← hq_]; exact (rkx HO_297002)⟩; have n1_ : Aside0 (wr.heap[gb287]? = some (.cells #[.int .i64 a0_0, .int .i64 a0_1, .slice A0_2 l0_2.length c0_2] 33 (0, 0))) := ⟨by rw [← hq_]; exact (bkx BK287)⟩; have n2_ : Aside0 (wr.heap[gb288]? = some (.cells #[.int .i64 0, .int .i64 0, .slice none 0 0] 33 (0, 0))) := ⟨by rw [← hq_]; exact (bkx BK288)⟩; have n3_ : Aside0 (wr.heap[gb296]? = some (.cells #[.int .i64 x297000_1, .int .i64 x297001_1, u297002] 33 (0, 0))) := ⟨by rw [← hq_]; exact (bkx BK296)⟩; have n4_ : Aside0 (Below w.heap.size w wr) := ⟨by rw [← hq_]; exact (hb3 HB GE287 GE288 GE296)⟩; clear HO_297002 BK287 BK288 BK296 HB hq_; have HO_297002 := n0_; have BK287 := n1_; have BK288 := n2_; have BK296 := n3_; have HB := n4_; clear n0_ n1_ n2_ n3_ n4_)); have hnb24 := NB296_287.out; have hnc24 := NB287_296.out; have hnb25 := NB296_288.out; have hnc25 := NB288_296.out; have hcz26_0 : wr.cell? ⟨gb296, 0, none⟩ = some (.int .i64 x297000_1) := (blk_cell BK296.out 0).trans rfl; have hcz26_1 : wr.cell? ⟨gb296, 1, none⟩ = some (.int .i64 x297001_1) := (blk_cell BK296.out 1).trans rfl; have hcz26_2 : wr.cell? ⟨gb296, 2, none⟩ = some (u297002) := (blk_cell BK296.out 2).trans rfl; have hfz26_0 := blk_frozen BK296.out 0; have hfz26_1 := blk_frozen BK296.out 1; have hfz26_2 := blk_frozen BK296.out 2) | ((with_reducible refine gate_dst (N := 8) rfl ?_); refine box_event ?hg (N := 8) ?hd (cs := #[.int .i64 0, .int .i64 0, .slice none 0 0]) (t := 33) ?hr ?_; (case hd => rfl); (case hg => rfl); (case hr => first | (go_simp; done) | (go_simp; rfl)); intro gb298 hg w27 hbox hb; have n0_ := Aside0.mk (Kd.R_below (rkx HO_297002) hb); have n1_ := Aside0.mk (blk_below (bkx BK287) hb); have n2_ := Aside0.mk (blk_below (bkx BK288) hb); have n3_ := Aside0.mk (blk_below (bkx BK296) hb); have n4_ := Aside0.mk (below_step (hb3 HB GE287 GE288 GE296) hb); have n5_ := Aside0.mk (hbox); have n6_ := Aside0.mk ((by rw [hg]; exact (below_size (hb3 HB GE287 GE288 GE296)) : w.heap.size ≤ gb298)); have n7_ := Aside0.mk ((by rw [hg]; exact (below_size (hb3 HB GE287 GE288 GE296)) : w.heap.size ≤ gb298)); have n8_ := Aside0.mk (nel hg BK287 : gb287 ≠ gb298); have n9_ := Aside0.mk (neg hg BK287 : gb298 ≠ gb287); have n10_ := Aside0.mk (nel hg BK288 : gb288 ≠ gb298); have n11_ := Aside0.mk (neg hg BK288 : gb298 ≠ gb288); have n12_ := Aside0.mk (nel hg BK296 : gb296 ≠ gb298); have n13_ := Aside0.mk (neg hg BK296 : gb298 ≠ gb296); clear HO_297002; clear BK287; clear BK288; clear BK296; clear HB; have HO_297002 := n0_; have BK287 := n1_; have BK288 := n2_; have BK296 := n3_; have HB := n4_; have BK298 := n5_; have GW298 := n6_; have GE298 := n7_; have NB287_298 := n8_; have NB298_287 := n9_; have NB288_298 := n10_; have NB298_288 := n11_; have NB296_298 := n12_; have NB298_296 := n13_; clear n0_ n1_ n2_ n3_ n4_ n5_ n6_ n7_ n8_ n9_ n10_ n11_ n12_ n13_; clear hb hbox hg; have hnb28 := NB298_287.out; have hnc28 := NB287_298.out; have hnb29 := NB298_288.out; have hnc29 := NB288_298.out; have hnb30 := NB298_296.out; have hnc30 := NB296_298.out; have hcz31_0 : w27.cell? ⟨gb298, 0, none⟩ = some (.int .i64 0) := (blk_cell BK298.out 0).trans rfl; have hcz31_1 : w27.cell? ⟨gb298, 1, none⟩ = some (.int .i64 0) := (blk_cell BK298.out 1).trans rfl; have hcz31_2 : w27.cell? ⟨gb298, 2, none⟩ = some (.slice none 0 0) := (blk_cell BK298.out 2).trans rfl; have hfz31_0 := blk_frozen BK298.out 0; have hfz31_1 := blk_frozen BK298.out 1; have hfz31_2 := blk_frozen BK298.out 2))
      go_loopg [9] k1 (fun kq v9 w' => ∃ (x9_2 : Int) (x299002_2 : List Bool) (u299002 : Value), v9 = .int .i64 x9_2 ∧ Aside0 (barscanref31_Turn.l1 kq a1 x7_1 x9_2 a0_0 a0_1 l0_2 x297000_1 x297001_1 x297002_1 x297001_1 x297000_1 x299002_2 = some (r1, r2, r3, r4)) ∧ Aside0 (kq ≤ k1) ∧ Aside0 (Kd.R Kd.bool 4 w' w.heap.size (fun k_ => some k_ ≠ (u299002 : Value).ownBlock) u297002 x297002_1) ∧ Aside0 (Kd.R Kd.bool 4 w' w.heap.size (fun k_ => some k_ ≠ (u297002 : Value).ownBlock) u299002 x299002_2) ∧ Aside0 (w'.heap[gb287]? = some (.cells #[.int .i64 a0_0, .int .i64 a0_1, (.slice A0_2 l0_2.length c0_2)] 33 (0, 0))) ∧ Aside0 (w'.heap[gb288]? = some (.cells #[.int .i64 0, .int .i64 0, (.slice none 0 0)] 33 (0, 0))) ∧ Aside0 (w'.heap[gb296]? = some (.cells #[.int .i64 x297000_1, .int .i64 x297001_1, u297002] 33 (0, 0))) ∧ Aside0 (w'.heap[gb298]? = some (.cells #[.int .i64 x297001_1, .int .i64 x297000_1, u299002] 33 (0, 0))) ∧ Aside0 (Below w.heap.size w w'))
      case atStart => exact ⟨(0), (([] : List Bool)), (.slice none 0 0), (by first | rfl | (simp; done) | (simp [*]; done)), H', ⟨Nat.le_refl _⟩, ⟨by refine rkt ?_; exact Kd.R_mono (Kd.R_far (p := ⟨gb298, 2, none⟩) (Kd.R_far (p := ⟨gb298, 1, none⟩) (Kd.R_far (p := ⟨gb298, 0, none⟩) (Kd.R_types HO_297002.out BK298.out (by decide)) (fun _ hk => hk.2) (.int .i64 x297001_1)) (fun _ hk => hk.2) (.int .i64 x297000_1)) (fun _ hk => hk.2) (.slice none 0 0)) (fun _ hk => (by simp [Value.ownBlock]))⟩, ⟨by first | exact Kd.R_nil _ _ _ _ _ | exact Kd.N_nil _ _ _ _ _ | exact Kd.V_nil _ _ _ _ _ | exact Kd.Q_nil _ _ _ _ _ | exact Kd.S_nil _ _ _ _ _⟩, ⟨bky BK287 NB287_298⟩, ⟨bky BK288 NB288_298⟩, ⟨bky BK296 NB296_298⟩, ⟨by refine bkt ?_; refine blk_put (cs := #[.int .i64 x297001_1, .int .i64 x297000_1, .slice none 0 0]) ?_ 2 _ rfl; refine bkt ?_; refine blk_put (cs := #[.int .i64 x297001_1, .int .i64 0, .slice none 0 0]) ?_ 1 _ rfl; refine bkt ?_; refine blk_put (cs := #[.int .i64 0, .int .i64 0, .slice none 0 0]) ?_ 0 _ rfl; refine bkt ?_; exact BK298.out⟩, ⟨hb4 HB GE287 GE288 GE296 GE298⟩⟩
      case round =>
       clear H'
       try clear c2
       try clear p2
       try clear c3
       try clear c4
       try clear c5
       try clear c6
       try clear c8
       try clear c23
       try clear c23b0
       try clear c24
       try clear c25
       try clear c28
       try clear c29
       try clear c30
       try clear hcz26_0
       try clear hcz26_1
       try clear hcz26_2
       try clear hcz31_0
       try clear hcz31_1
       try clear hcz31_2
       try clear hcz9_0
       try clear hcz9_1
       try clear hcz9_2
       try clear hfz26_0
       try clear hfz26_1
       try clear hfz26_2
       try clear hfz31_0
       try clear hfz31_1
       try clear hfz31_2
       try clear hfz9_0
       try clear hfz9_1
       try clear hfz9_2
       try clear p2
       obtain ⟨x9_2, x299002_2, u299002, rfl, HA, HK2, HO_297002, HO_299002, BK287, BK288, BK296, BK298, HB⟩ := hrel
       cases gk with
       | zero => exact absurd HA.out (by simp [barscanref31_Turn.l1])
       | succ k2 =>
        have H := HA.out
        clear HA
        simp only [barscanref31_Turn.l1] at H
        by_cases c32 : x9_2 < (l0_2.length : Int)
        ·rw [if_pos c32] at H
         have c32b0 : decide (x9_2 < (l0_2.length : Int)) = true := decide_eq_true c32
         clear c32
         replace H := Option.bind_eq_some_iff.mp H
         obtain ⟨t299, A330, H⟩ := H
         replace H : (if 0 ≤ t299 then (if t299 < (x297002_1.length : Int) then (if x299002_2.length < 140737488355328 then (barscanref31_Turn.l1 k2 a1 x7_1 (wrap64 (x9_2 + 1)) a0_0 a0_1 l0_2 x297000_1 x297001_1 x297002_1 x297001_1 x297000_1 (x299002_2 ++ [rdOf false x297002_1 t299])) else (none)) else (none)) else (none)) = some (r1, r2, r3, r4) := H
         have A33 := Aside0.mk A330
         clear A330
         by_cases c34 : 0 ≤ t299
         ·rw [if_pos c34] at H
          have c34b0 : decide (0 ≤ t299) = true := decide_eq_true c34
          clear c34
          by_cases c35 : t299 < (x297002_1.length : Int)
          ·rw [if_pos c35] at H
           have c35b0 : decide (t299 < (x297002_1.length : Int)) = true := decide_eq_true c35
           clear c35
           by_cases c36 : x299002_2.length < 140737488355328
           ·rw [if_pos c36] at H
            have LMc36 := Aside0.mk c36
            clear c36
            obtain ⟨y301, hy301⟩ : ∃ y_ : List Bool, y_ = (x299002_2 ++ [rdOf false x297002_1 t299]) := ⟨_, rfl⟩
            replace H : (barscanref31_Turn.l1 k2 a1 x7_1 (wrap64 (x9_2 + 1)) a0_0 a0_1 l0_2 x297000_1 x297001_1 x297002_1 x297001_1 x297000_1 y301) = some (r1, r2, r3, r4) := by first | (rw [hy301]; with_reducible exact H) | (have H2_ := (Option.bind_some _ _).symm.trans H; rw [hy301]; with_reducible exact H2_) | (have H2_ := (Option.bind_some _ _).symm.trans H; with_reducible exact H2_) | with_reducible exact H | (rw [hy301]; exact H) | exact H
            have Ny301 := Aside0.mk hy301
            clear hy301
            have H' := Aside0.mk H
            clear H
            have hnb37 := NB287_288.out
            have hnc37 := NB288_287.out
            have hnb38 := NB287_296.out
            have hnc38 := NB296_287.out
            have hnb39 := NB287_298.out
            have hnc39 := NB298_287.out
            have hcz40_0 : wr.cell? ⟨gb287, 0, none⟩ = some (.int .i64 a0_0) := (blk_cell BK287.out 0).trans rfl
            have hcz40_1 : wr.cell? ⟨gb287, 1, none⟩ = some (.int .i64 a0_1) := (blk_cell BK287.out 1).trans rfl
            have hcz40_2 : wr.cell? ⟨gb287, 2, none⟩ = some (.slice A0_2 l0_2.length c0_2) := (blk_cell BK287.out 2).trans rfl
            have hfz40_0 := blk_frozen BK287.out 0
            have hfz40_1 := blk_frozen BK287.out 1
            have hfz40_2 := blk_frozen BK287.out 2
            try go_wp2
            have n0_ := Aside0.mk (Kd.R_drew HO_297002.out)
            have n1_ := Aside0.mk (Kd.R_drew HO_299002.out)
            have n2_ := Aside0.mk (blk_drew BK287.out)
            have n3_ := Aside0.mk (blk_drew BK288.out)
            have n4_ := Aside0.mk (blk_drew BK296.out)
            have n5_ := Aside0.mk (blk_drew BK298.out)
            have n6_ := Aside0.mk (below_drew1 HB.out)
            clear HO_297002
            clear HO_299002
            clear BK287
            clear BK288
            clear BK296
            clear BK298
            clear HB
            have HO_297002 := n0_
            have HO_299002 := n1_
            have BK287 := n2_
            have BK288 := n3_
            have BK296 := n4_
            have BK298 := n5_
            have HB := n6_
            clear n0_ n1_ n2_ n3_ n4_ n5_ n6_
            obtain ⟨Ao42, co42, eo42⟩ := Kd.R_slice HO_297002.out
            (first | subst eo42 | (injection eo42 with f1_ f2_ f3_; have f4_ := f1_.symm; have f5_ := f3_.symm; clear f1_ f2_ f3_; subst f4_; subst f5_))
            have p300 : 0 ≤ (t299 : Int) := of_decide_eq_true (by first | (with_reducible assumption) | assumption)
            have q300 : t299 < (x297002_1.length : Int) := of_decide_eq_true (by first | (with_reducible assumption) | assumption)
            obtain ⟨ad300, e300, hx300_0⟩ := Kd.at_bool (Kd.R_reads' HO_297002.out).2.2 t299 p300 q300
            cases e300
            replace p300 := eq_true p300
            replace q300 := eq_true q300
            refine start_ (n := 16) (S := fun w' => w'.cell? ⟨gb298, 0, none⟩ = some (.int .i64 x297001_1) ∧ w'.cell? ⟨gb298, 1, none⟩ = some (.int .i64 x297000_1) ∧ w'.cell? ⟨gb298, 2, none⟩ = some (u299002) ∧ w'.cell? ⟨gb296, 0, none⟩ = some (.int .i64 x297000_1) ∧ w'.cell? ⟨gb296, 1, none⟩ = some (.int .i64 x297001_1) ∧ w'.cell? ⟨gb296, 2, none⟩ = some (.slice (some ad300) x297002_1.length co42) ∧ w'.cell? (ad300.add (t299).toNat) = some (.bool (rdOf false x297002_1 t299))) (ds := [13, 15]) (bA 16 0) (by kernel_rfl) rfl rfl ⟨(blk_cell BK298.out 0).trans rfl, (blk_cell BK298.out 1).trans rfl, (blk_cell BK298.out 2).trans rfl, (blk_cell BK296.out 0).trans rfl, (blk_cell BK296.out 1).trans rfl, (blk_cell BK296.out 2).trans rfl, hx300_0⟩ (fun hHeld => ?_); refine with_tabW barscanref31_Turn.tab11 barscanref31_Turn.bits11 (fun HT_ HW_ => ?_)
            generalize wr.drew = w41 at HO_297002 HO_299002 BK287 BK288 BK296 BK298 HB hx300_0 hHeld ⊢
            refine pt HT_ 0 41 ?_
            refine pt HT_ 2 43 ?_
            refine pt HT_ 4 45 ?_
            refine pt HT_ 6 47 ?_
            refine pt HT_ 8 49 ?_
            refine tk HT_ HW_ hHeld 1 42 ?_
            refine tk HT_ HW_ hHeld 3 44 ?_
            refine tk HT_ HW_ hHeld 5 46 ?_
            refine tk HT_ HW_ hHeld 7 48 ?_
            refine one_ (i := 9) (N := some 50) (bA 16 1023) rfl rfl (one_of HT_.out (by kernel_rfl)) (by decide) (fun K hK => ?_)
            refine goes_ Try.func61 (by kernel_rfl) rfl #[.int .i64 x297000_1, .int .i64 x297001_1, .int .i64 x9_2] (by rfl) rfl rfl mapx ?_
            with_reducible refine (barscanref31_turned.calls x297000_1 x297001_1 x9_2 t299 _ A33.out).mono ?_
            rintro e w' ⟨rfl, ⟨nd, rfl⟩⟩
            refine ⟨_, rfl, ?_⟩
            refine hK.out _ _ ⟨(blk_cell BK298.out 0).trans rfl, (blk_cell BK298.out 1).trans rfl, (blk_cell BK298.out 2).trans rfl, (blk_cell BK296.out 0).trans rfl, (blk_cell BK296.out 1).trans rfl, (blk_cell BK296.out 2).trans rfl, hHeld.2.2.2.2.2.2⟩ (fun hHeld => ?_)
            clear hK K
            refine norm_ (a' := ?_) ?_ ?_
            rotate_left
            ·show Act.put _ (some 50) _ = _
             simp only [Act.put, List.setIfInBounds_toArray, List.set_cons_zero, List.set_cons_succ, i64_w, i32_w]
             rfl
            refine pt HT_ 10 51 ?_
            refine tk HT_ HW_ hHeld 11 52 ?_
            refine one_ (i := 12) (N := some 53) (bA 16 8191) rfl rfl (one_of HT_.out (by kernel_rfl)) (by decide) (fun K hK => ?_)
            refine value_ (w1 := ?_) (v := ?_) (by rfl) rfl ?_ ?_
            rotate_left 2
            ·go_simp
             constructor
             ·rfl
             ·rfl
            refine hK.out _ _ ⟨(blk_cell (blk_alloc BK298.out _) 0).trans rfl, (blk_cell (blk_alloc BK298.out _) 1).trans rfl, (blk_cell (blk_alloc BK298.out _) 2).trans rfl, (blk_cell (blk_alloc BK296.out _) 0).trans rfl, (blk_cell (blk_alloc BK296.out _) 1).trans rfl, (blk_cell (blk_alloc BK296.out _) 2).trans rfl, (World.cell?_alloc_lt _ _ _ (World.block_lt_of_cell? _ _ (hHeld.2.2.2.2.2.2))).trans (hHeld.2.2.2.2.2.2)⟩ (fun hHeld => ?_)
            clear hK K
            refine norm_ (a' := ?_) ?_ ?_
            rotate_left
            ·show Act.put _ (some 53) _ = _
             simp only [Act.put, List.setIfInBounds_toArray, List.set_cons_zero, List.set_cons_succ, i64_w, i32_w]
             rfl
            refine last_ (i := 13) (N := some 54) (bA 16 16383) rfl rfl (one_of HT_.out (by kernel_rfl)) (by decide) (fun K hK => ?_)
            refine Kd.R_append_step Kd.bool (w0 := w) w.heap.size (by rfl) (.tmp 42) (.tmp 53) 31 4 (.bool false) 1 rfl Try.underlying31 info4 rfl (by decide) (by omega) u299002 x299002_2 (rdOf false x297002_1 t299) [.bool (rdOf false x297002_1 t299)] (fun k_ => some k_ ≠ (.slice (some ad300) x297002_1.length co42 : Value).ownBlock) (fun _ => False) rfl rfl ?aP (fun _ hk => hk.elim) ?aF ?aO ?aB ?aS ?aL ?_
            (case aP => exact rfl)
            (case aB => exact (hb4 HB GE287 GE288 GE296 GE298))
            (case aF => exact (fun k_ hk => Kd.fresh' (Kd.R_lt (rkx HO_297002)) k_ hk))
            (case aO => exact (rkx HO_299002))
            (case aS => exact (below_size (hb4 HB GE287 GE288 GE296 GE298)))
            (case aL => have := LMc36.out; omega)
            intro v302 w43 ho hb hg hat
            rw [← Ny301.out] at ho
            have n0_ := Aside0.mk (Kd.R_after (ok := (fun _ => True)) (by refine rkt ?_; exact Kd.R_mono HO_297002.out (fun _ hk => ⟨trivial, hk⟩)) hg hat)
            have n1_ := Aside0.mk (blk_grown (g := gb287) (o := .cells #[.int .i64 a0_0, .int .i64 a0_1, .slice A0_2 l0_2.length c0_2] 33 (0, 0)) (bkx BK287) hg (Kd.R_ne HO_299002.out BK287.out (by decide)))
            have n2_ := Aside0.mk (blk_grown (g := gb288) (o := .cells #[.int .i64 0, .int .i64 0, .slice none 0 0] 33 (0, 0)) (bkx BK288) hg (Kd.R_ne HO_299002.out BK288.out (by decide)))
            have n3_ := Aside0.mk (blk_grown (g := gb296) (o := .cells #[.int .i64 x297000_1, .int .i64 x297001_1, .slice (some ad300) x297002_1.length co42] 33 (0, 0)) (bkx BK296) hg (Kd.R_ne HO_299002.out BK296.out (by decide)))
            have n4_ := Aside0.mk (blk_grown (g := gb298) (o := .cells #[.int .i64 x297001_1, .int .i64 x297000_1, u299002] 33 (0, 0)) (bkx BK298) hg (Kd.R_ne HO_299002.out BK298.out (by decide)))
            have n5_ := Aside0.mk (hb)
            have n6_ := Aside0.mk (ho)
            clear HO_297002
            clear BK287
            clear BK288
            clear BK296
            clear BK298
            clear HB
            clear HO_299002
            have HO_297002 := n0_
            have BK287 := n1_
            have BK288 := n2_
            have BK296 := n3_
            have BK298 := n4_
            have HB := n5_
            have HO303 := n6_
            clear n0_ n1_ n2_ n3_ n4_ n5_ n6_
            clear ho hb hg hat
            obtain ⟨Ao44, co44, eo44⟩ := Kd.R_slice HO303.out
            (first | subst eo44 | (injection eo44 with f1_ f2_ f3_; have f4_ := f1_.symm; have f5_ := f3_.symm; clear f1_ f2_ f3_; subst f4_; subst f5_))
            refine hK.out _ _ ?_
            clear hK K
            refine norm_ (a' := ?_) ?_ ?_
            rotate_left
            ·show Act.put _ (some 54) _ = _
             simp only [Act.put, List.setIfInBounds_toArray, List.set_cons_zero, List.set_cons_succ, i64_w, i32_w]
             rfl
            refine pt HT_ 14 55 ?_
            refine last_ (i := 15) (N := none) (bA 16 65535) rfl rfl (one_of HT_.out (by kernel_rfl)) (by decide) (fun K hK => ?_)
            have hs45 : w43.cell? ⟨gb298, 2, none⟩ = some (u299002) := (blk_cell BK298.out 2).trans rfl
            have hfs45 := blk_frozen BK298.out 2
            have hns45_0 := NB287_298.out
            have hns45_1 := NB288_298.out
            have hns45_2 := NB296_298.out
            have hms45_0 := NB298_287.out
            have hms45_1 := NB298_288.out
            have hms45_2 := NB298_296.out
            refine skip_ (w1 := ?_) (by rfl) rfl ?_ ?_
            rotate_left
            ·go_simp
             rfl
            refine hK.out _ _ ?_
            clear hK K
            refine done_ (done_of HT_.out (by kernel_rfl)) ?_
            try go_wp2
            go_roundg k2
            case measure => have := HK1.out; have := HK2.out; omega
            case rel => exact ⟨(wrap64 (x9_2 + 1)), (y301), (.slice Ao44 y301.length co44), (by first | rfl | (simp; done) | (simp [*]; done)), H', ⟨by have := HK1.out; have := HK2.out; omega⟩, ⟨by refine rkt ?_; exact Kd.R_mono (Kd.R_far (p := ⟨gb298, 2, none⟩) (Kd.R_types HO_297002.out BK298.out (by decide)) (fun _ hk => hk.2) (.slice Ao44 y301.length co44)) (fun _ hk => hk.1.2)⟩, ⟨by refine rkt ?_; exact Kd.R_mono (Kd.R_far (p := ⟨gb298, 2, none⟩) (Kd.R_types HO303.out BK298.out (by decide)) (fun _ hk => hk.2) (.slice Ao44 y301.length co44)) (fun _ hk => hk.1)⟩, ⟨bky BK287 NB287_298⟩, ⟨bky BK288 NB288_298⟩, ⟨bky BK296 NB296_298⟩, ⟨by refine bkt ?_; refine blk_put (cs := #[.int .i64 x297001_1, .int .i64 x297000_1, u299002]) ?_ 2 _ rfl; refine bkt ?_; exact BK298.out⟩, ⟨hb4 HB GE287 GE288 GE296 GE298⟩⟩
           ·rw [if_neg c36] at H
            exact absurd H (by simp)
          ·rw [if_neg c35] at H
           exact absurd H (by simp)
         ·rw [if_neg c34] at H
          exact absurd H (by simp)
        ·rw [if_neg c32] at H
         have c32b0 : decide (x9_2 < (l0_2.length : Int)) = false := decide_eq_false c32
         clear c32
         have H' := Aside0.mk H
         clear H
         have hnb46 := NB287_288.out
         have hnc46 := NB288_287.out
         have hnb47 := NB287_296.out
         have hnc47 := NB296_287.out
         have hnb48 := NB287_298.out
         have hnc48 := NB298_287.out
         have hcz49_0 : wr.cell? ⟨gb287, 0, none⟩ = some (.int .i64 a0_0) := (blk_cell BK287.out 0).trans rfl
         have hcz49_1 : wr.cell? ⟨gb287, 1, none⟩ = some (.int .i64 a0_1) := (blk_cell BK287.out 1).trans rfl
         have hcz49_2 : wr.cell? ⟨gb287, 2, none⟩ = some (.slice A0_2 l0_2.length c0_2) := (blk_cell BK287.out 2).trans rfl
         have hfz49_0 := blk_frozen BK287.out 0
         have hfz49_1 := blk_frozen BK287.out 1
         have hfz49_2 := blk_frozen BK287.out 2
         have hnb50 := NB298_288.out
         have hnc50 := NB288_298.out
         have hnb51 := NB298_296.out
         have hnc51 := NB296_298.out
         have hcz52_0 : wr.cell? ⟨gb298, 0, none⟩ = some (.int .i64 x297001_1) := (blk_cell BK298.out 0).trans rfl
         have hcz52_1 : wr.cell? ⟨gb298, 1, none⟩ = some (.int .i64 x297000_1) := (blk_cell BK298.out 1).trans rfl
         have hcz52_2 : wr.cell? ⟨gb298, 2, none⟩ = some (u299002) := (blk_cell BK298.out 2).trans rfl
         have hfz52_0 := blk_frozen BK298.out 0
         have hfz52_1 := blk_frozen BK298.out 1
         have hfz52_2 := blk_frozen BK298.out 2
         have hnb53 := NB296_288.out
         have hnc53 := NB288_296.out
         have hcz54_0 : wr.cell? ⟨gb296, 0, none⟩ = some (.int .i64 x297000_1) := (blk_cell BK296.out 0).trans rfl
         have hcz54_1 : wr.cell? ⟨gb296, 1, none⟩ = some (.int .i64 x297001_1) := (blk_cell BK296.out 1).trans rfl
         have hcz54_2 : wr.cell? ⟨gb296, 2, none⟩ = some (u297002) := (blk_cell BK296.out 2).trans rfl
         have hfz54_0 := blk_frozen BK296.out 0
         have hfz54_1 := blk_frozen BK296.out 1
         have hfz54_2 := blk_frozen BK296.out 2
         obtain ⟨Ao55, co55, eo55⟩ := Kd.R_slice HO_299002.out
         subst eo55
         go_wp2
         go_roundg k2
         case measure => have := HK1.out; have := HK2.out; omega
         case rel => exact ⟨(wrap64 (x7_1 + 1)), (x297001_1), (x297000_1), (x299002_2), (.slice Ao55 x299002_2.length co55), (by first | rfl | (simp; done) | (simp [*]; done)), H', ⟨by have := HK1.out; have := HK2.out; omega⟩, ⟨by refine rkt ?_; exact Kd.R_mono (Kd.R_far (p := ⟨gb296, 2, none⟩) (Kd.R_far (p := ⟨gb296, 1, none⟩) (Kd.R_far (p := ⟨gb296, 0, none⟩) (Kd.R_types HO_299002.out BK296.out (by decide)) (fun _ hk => hk.2) (.int .i64 x297001_1)) (fun _ hk => hk.2) (.int .i64 x297000_1)) (fun _ hk => hk.2) (.slice Ao55 x299002_2.length co55)) (fun _ hk => trivial)⟩, ⟨bky BK287 NB287_296⟩, ⟨bky BK288 NB288_296⟩, ⟨by refine bkt ?_; refine blk_put (cs := #[.int .i64 x297001_1, .int .i64 x297000_1, u297002]) ?_ 2 _ rfl; refine bkt ?_; refine blk_put (cs := #[.int .i64 x297001_1, .int .i64 x297001_1, u297002]) ?_ 1 _ rfl; refine bkt ?_; refine blk_put (cs := #[.int .i64 x297000_1, .int .i64 x297001_1, u297002]) ?_ 0 _ rfl; refine bkt ?_; exact BK296.out⟩, ⟨hb4 HB GE287 GE288 GE296 GE298⟩⟩
     ·rw [if_neg c23] at H
      have c23b0 : decide (x7_1 < t297) = false := decide_eq_false c23
      clear c23
      simp only [Option.some.injEq, Prod.mk.injEq] at H
      obtain ⟨rfl, rfl, rfl, rfl⟩ := H
      go_wp2_with (first | ((with_reducible refine gate_callee (f := 60) rfl ?_); refine goesL_ (some 25) rfl rfl Try.func60 (by kernel_rfl) rfl #[.int .i64 a1] rfl mapx ?_; (with_reducible refine (barscanref31_quarters.calls a1 t297 _ A22.out).mono ?_); rintro e w' ⟨rfl, ⟨nd, rfl⟩⟩; refine ⟨_, rfl, ?_⟩; (try (rw [drewN_self wr]; generalize hq_ : World.drewN wr _ = wr; have n0_ : Aside0 (Kd.R Kd.bool 4 wr w.heap.size (fun _ => True) u297002 x297002_1) := ⟨by rw [← hq_]; exact (rkx HO_297002)⟩; have n1_ : Aside0 (wr.heap[gb287]? = some (.cells #[.int .i64 a0_0, .int .i64 a0_1, .slice A0_2 l0_2.length c0_2] 33 (0, 0))) := ⟨by rw [← hq_]; exact (bkx BK287)⟩; have n2_ : Aside0 (wr.heap[gb288]? = some (.cells #[.int .i64 0, .int .i64 0, .slice none 0 0] 33 (0, 0))) := ⟨by rw [← hq_]; exact (bkx BK288)⟩; have n3_ : Aside0 (wr.heap[gb296]? = some (.cells #[.int .i64 x297000_1, .int .i64 x297001_1, u297002] 33 (0, 0))) := ⟨by rw [← hq_]; exact (bkx BK296)⟩; have n4_ : Aside0 (Below w.heap.size w wr) := ⟨by rw [← hq_]; exact (hb3 HB GE287 GE288 GE296)⟩; clear HO_297002 BK287 BK288 BK296 HB hq_; have HO_297002 := n0_; have BK287 := n1_; have BK288 := n2_; have BK296 := n3_; have HB := n4_; clear n0_ n1_ n2_ n3_ n4_)); have hnb56 := NB296_287.out; have hnc56 := NB287_296.out; have hnb57 := NB296_288.out; have hnc57 := NB288_296.out; have hcz58_0 : wr.cell? ⟨gb296, 0, none⟩ = some (.int .i64 x297000_1) := (blk_cell BK296.out 0).trans rfl; have hcz58_1 : wr.cell? ⟨gb296, 1, none⟩ = some (.int .i64 x297001_1) := (blk_cell BK296.out 1).trans rfl; have hcz58_2 : wr.cell? ⟨gb296, 2, none⟩ = some (u297002) := (blk_cell BK296.out 2).trans rfl; have hfz58_0 := blk_frozen BK296.out 0; have hfz58_1 := blk_frozen BK296.out 1; have hfz58_2 := blk_frozen BK296.out 2; have hnb59 := NB288_287.out; have hnc59 := NB287_288.out; have hcz60_0 : wr.cell? ⟨gb288, 0, none⟩ = some (.int .i64 0) := (blk_cell BK288.out 0).trans rfl; have hcz60_1 : wr.cell? ⟨gb288, 1, none⟩ = some (.int .i64 0) := (blk_cell BK288.out 1).trans rfl; have hcz60_2 : wr.cell? ⟨gb288, 2, none⟩ = some (.slice none 0 0) := (blk_cell BK288.out 2).trans rfl; have hfz60_0 := blk_frozen BK288.out 0; have hfz60_1 := blk_frozen BK288.out 1; have hfz60_2 := blk_frozen BK288.out 2; obtain ⟨Ao61, co61, eo61⟩ := Kd.R_slice HO_297002.out; subst eo61))
      refine bodyPost_ret (results_ct rfl _ _ gb288 33 #[.int .i64 x297000_1, .int .i64 x297001_1, .slice Ao61 x297002_1.length co61] (0, 0) _ rfl (by refine bkt ?_; refine blk_put (cs := #[.int .i64 x297000_1, .int .i64 x297001_1, .slice none 0 0]) ?_ 2 _ rfl; refine bkt ?_; refine blk_put (cs := #[.int .i64 x297000_1, .int .i64 0, .slice none 0 0]) ?_ 1 _ rfl; refine bkt ?_; refine blk_put (cs := #[.int .i64 0, .int .i64 0, .slice none 0 0]) ?_ 0 _ rfl; refine bkt ?_; exact BK288.out) Try.underlying33 rfl (by kernel_rfl)) rfl ?_
      exact ⟨_, by first | rfl | (simp [errW_none, errW_some] <;> rfl) | (simp [*, errW_none, errW_some] <;> rfl), by refine rkt ?_; exact Kd.R_mono (Kd.R_far (p := ⟨gb288, 2, none⟩) (Kd.R_far (p := ⟨gb288, 1, none⟩) (Kd.R_far (p := ⟨gb288, 0, none⟩) (Kd.R_types HO_297002.out BK288.out (by decide)) (fun _ hk => hk.2) (.int .i64 x297000_1)) (fun _ hk => hk.2) (.int .i64 x297001_1)) (fun _ hk => hk.2) (.slice Ao61 x297002_1.length co61)) (fun _ hk => trivial), by repeat (first | (with_reducible first | exact HB.out | apply below_alloc | apply pw_below_drewN | apply below_drew1 | refine below_set ?_ GE287.out | refine below_set ?_ GE288.out | refine below_set ?_ GE296.out) | exact HB.out)⟩
  ·rw [if_neg c5] at H
   exact absurd H (by simp)
 ·replace c4 := Bool.eq_false_iff.mpr c4
  subst c4
  have H1 : (some (0, 0, ([] : List Bool), 1)) = some (r1, r2, r3, r4) := by rw [if_neg (show ¬ (false = true) by decide)] at H; exact H
  clear H
  have H := H1
  clear H1
  simp only [Option.some.injEq, Prod.mk.injEq] at H
  obtain ⟨rfl, rfl, rfl, rfl⟩ := H
  go_enter Try.func49, Try.ntmps49
  go_wp2_with (first | ((with_reducible refine gate_dst (N := 2) rfl ?_); refine box_event ?hg (N := 2) ?hd (cs := #[.int .i64 a0_0, .int .i64 a0_1, .slice A0_2 l0_2.length c0_2]) (t := 33) ?hr ?_; (case hd => rfl); (case hg => rfl); (case hr => first | (go_simp; done) | (go_simp; rfl)); intro gb287 hg w62 hbox hb; have n0_ := Aside0.mk (below_step (hb0 HB) hb); have n1_ := Aside0.mk (hbox); have n2_ := Aside0.mk ((by rw [hg]; exact (below_size (hb0 HB)) : w.heap.size ≤ gb287)); have n3_ := Aside0.mk ((by rw [hg]; exact (below_size (hb0 HB)) : w.heap.size ≤ gb287)); clear HB; have HB := n0_; have BK287 := n1_; have GW287 := n2_; have GE287 := n3_; clear n0_ n1_ n2_ n3_; clear hb hbox hg) | ((with_reducible refine gate_dst (N := 4) rfl ?_); refine box_event ?hg (N := 4) ?hd (cs := #[.int .i64 0, .int .i64 0, .slice none 0 0]) (t := 33) ?hr ?_; (case hd => rfl); (case hg => rfl); (case hr => first | (go_simp; done) | (go_simp; rfl)); intro gb288 hg w63 hbox hb; have n0_ := Aside0.mk (blk_below (bkx BK287) hb); have n1_ := Aside0.mk (below_step (hb1 HB GE287) hb); have n2_ := Aside0.mk (hbox); have n3_ := Aside0.mk ((by rw [hg]; exact (below_size (hb1 HB GE287)) : w.heap.size ≤ gb288)); have n4_ := Aside0.mk ((by rw [hg]; exact (below_size (hb1 HB GE287)) : w.heap.size ≤ gb288)); have n5_ := Aside0.mk (nel hg BK287 : gb287 ≠ gb288); have n6_ := Aside0.mk (neg hg BK287 : gb288 ≠ gb287); clear BK287; clear HB; have BK287 := n0_; have HB := n1_; have BK288 := n2_; have GW288 := n3_; have GE288 := n4_; have NB287_288 := n5_; have NB288_287 := n6_; clear n0_ n1_ n2_ n3_ n4_ n5_ n6_; clear hb hbox hg; have hnb64 := NB287_288.out; have hnc64 := NB288_287.out; have hcz65_0 : w63.cell? ⟨gb287, 0, none⟩ = some (.int .i64 a0_0) := (blk_cell BK287.out 0).trans rfl; have hcz65_1 : w63.cell? ⟨gb287, 1, none⟩ = some (.int .i64 a0_1) := (blk_cell BK287.out 1).trans rfl; have hcz65_2 : w63.cell? ⟨gb287, 2, none⟩ = some (.slice A0_2 l0_2.length c0_2) := (blk_cell BK287.out 2).trans rfl; have hfz65_0 := blk_frozen BK287.out 0; have hfz65_1 := blk_frozen BK287.out 1; have hfz65_2 := blk_frozen BK287.out 2) | ((with_reducible refine gate_callee (f := 41) rfl ?_); refine goesL_ (some 11) rfl rfl Try.func41 (by kernel_rfl) rfl #[.agg #[.int .i64 a0_0, .int .i64 a0_1, .slice A0_2 l0_2.length c0_2]] rfl mapx ?_; (with_reducible refine (barscanref31_Valid.calls a0_0 a0_1 _ _ l0_2 false _ ?side1 ?side2 A3.out).mono ?_); (case side1 => repeat (first | exact (Kd.C_below HR0_2.out HB.out) | (with_reducible refine Kd.C_alloc ?_ _) | (with_reducible refine Kd.C_drewN ?_ _) | (with_reducible refine Kd.C_drew ?_))); (case side2 => exact HC0_2.out); rintro e w66 ⟨rfl, hb⟩; refine ⟨_, rfl, ?_⟩; have n0_ := Aside0.mk (blk_below (bkx BK287) hb); have n1_ := Aside0.mk (blk_below (bkx BK288) hb); have n2_ := Aside0.mk (below_step (hb2 HB GE287 GE288) hb); clear BK287; clear BK288; clear HB; have BK287 := n0_; have BK288 := n1_; have HB := n2_; clear n0_ n1_ n2_; (try clear hb); (try clear hb2); (try clear hk); (try clear hi); have hcz67_0 : w66.cell? ⟨gb288, 0, none⟩ = some (.int .i64 0) := (blk_cell BK288.out 0).trans rfl; have hcz67_1 : w66.cell? ⟨gb288, 1, none⟩ = some (.int .i64 0) := (blk_cell BK288.out 1).trans rfl; have hcz67_2 : w66.cell? ⟨gb288, 2, none⟩ = some (.slice none 0 0) := (blk_cell BK288.out 2).trans rfl; have hfz67_0 := blk_frozen BK288.out 0; have hfz67_1 := blk_frozen BK288.out 1; have hfz67_2 := blk_frozen BK288.out 2))
  refine bodyPost_ret (results_ct rfl _ _ gb288 33 #[.int .i64 0, .int .i64 0, .slice none 0 0] (0, 0) _ rfl (by refine bkt ?_; refine blk_put (cs := #[.int .i64 0, .int .i64 0, .slice none 0 0]) ?_ 2 _ rfl; refine bkt ?_; refine blk_put (cs := #[.int .i64 0, .int .i64 0, .slice none 0 0]) ?_ 1 _ rfl; refine bkt ?_; refine blk_put (cs := #[.int .i64 0, .int .i64 0, .slice none 0 0]) ?_ 0 _ rfl; refine bkt ?_; exact BK288.out) Try.underlying33 rfl (by kernel_rfl)) rfl ?_
  exact ⟨_, by first | rfl | (simp [errW_none, errW_some] <;> rfl) | (simp [*, errW_none, errW_some] <;> rfl), by first | exact Kd.R_nil _ _ _ _ _ | exact Kd.N_nil _ _ _ _ _ | exact Kd.V_nil _ _ _ _ _ | exact Kd.Q_nil _ _ _ _ _ | exact Kd.S_nil _ _ _ _ _, by repeat (first | (with_reducible first | exact HB.out | apply below_alloc | apply pw_below_drewN | apply below_drew1 | refine below_set ?_ GE287.out | refine below_set ?_ GE288.out) | exact HB.out)⟩

end Go.Proofs.Ytbipbbckfmilfaa.PR
