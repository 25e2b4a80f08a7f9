-- Written by this session's own program (myprint.py).
import Derived.Test.YtcmcmoaikabfoaaPRx0
import Derived.Test.YtcmcmoaikabfoaaPRx17
import Derived.Test.YtcmcmoaikabfoaaPRx19
namespace Go.Proofs.Ytcmcmoaikabfoaa.PR
open Go.RowKit Go.Proofs.YtcmcmoaikabfoaaW.PrintWords Go.Proofs.YtcmcmoaikabfoaaW.PrintLast Go.Proofs.YtcmcmoaikabfoaaW.PrintMore Go.Proofs.Ytcmcmoaikabfoaa.XWords Go.Proofs.Ytcmcmoaikabfoaa.XShort
attribute [local go_sem] max2_int min2_int max_two min_two max_three min_three max_four min_four   -- for this text's walks alone
set_option linter.unusedVariables false
set_option linter.unusedSimpArgs false

/-! ### barscanref31_TurnImage: function 41 -/
mutual
def barscanref31_TurnImage.l0 : Nat → Int → Int → Int → Int → List Int → Int → Int → List Int → Option (Int × Int × List Int × Int)
 | 0, _, _, _, _, _, _, _, _ => none
 | k + 1, x1, x7, x691000, x691001, x691002, x700000, x700001, x700002 => (barscanref31_quarters.f x1).bind fun t700 => (if x7 < t700 then (barscanref31_TurnImage.l1 k x1 x7 0 x691000 x691001 x691002 x700000 x700001 x700002 x700001 x700000 ([] : List Int)) else (some (x700000, x700001, x700002, 0)))
def barscanref31_TurnImage.l1 : Nat → Int → Int → Int → Int → Int → List Int → Int → Int → List Int → Int → Int → List Int → Option (Int × Int × List Int × Int)
 | 0, _, _, _, _, _, _, _, _, _, _, _, _ => none
 | k + 1, x1, x7, x9, x691000, x691001, x691002, x700000, x700001, x700002, x702000, x702001, x702002 => if x9 < (x691002.length : Int) then ((barscanref31_turned.f x700000 x700001 x9).bind fun t702 => (if 0 ≤ t702 then (if t702 < (x700002.length : Int) then (if x702002.length < 140737488355328 then (barscanref31_TurnImage.l1 k x1 x7 (wrap64 (x9 + 1)) x691000 x691001 x691002 x700000 x700001 x700002 x702000 x702001 (x702002 ++ [rd x700002 t702])) else (none)) else (none)) else (none))) else (barscanref31_TurnImage.l0 k x1 (wrap64 (x7 + 1)) x691000 x691001 x691002 x702000 x702001 x702002)
end
def barscanref31_TurnImage.f (k : Nat) (a0_0 : Int) (a0_1 : Int) (l0_2 : List Int) (a1 : Int) : Option (Int × Int × List Int × Int) := (barscanref31_ValidImage.f a0_0 a0_1 l0_2).bind fun t692 => (if t692 = true then ((some (([] : List Int) : List Int)).bind fun y693 => (if y693.length + l0_2.length < 140737488355328 then (barscanref31_TurnImage.l0 k a1 0 a0_0 a0_1 l0_2 a0_0 a0_1 (y693 ++ l0_2)) else (none))) else (some (0, 0, ([] : List Int), 1)))
theorem barscanref31_TurnImage.mono_l : ∀ k, (∀ y0 y1 y2 y3 y4 y5 y6 y7, LeO (barscanref31_TurnImage.l0 k y0 y1 y2 y3 y4 y5 y6 y7) (barscanref31_TurnImage.l0 (k + 1) y0 y1 y2 y3 y4 y5 y6 y7)) ∧ (∀ y0 y1 y2 y3 y4 y5 y6 y7 y8 y9 y10 y11, LeO (barscanref31_TurnImage.l1 k y0 y1 y2 y3 y4 y5 y6 y7 y8 y9 y10 y11) (barscanref31_TurnImage.l1 (k + 1) y0 y1 y2 y3 y4 y5 y6 y7 y8 y9 y10 y11))
 | 0 => ⟨fun _ _ _ _ _ _ _ _ r h => by simp [barscanref31_TurnImage.l0] at h, fun _ _ _ _ _ _ _ _ _ _ _ _ r h => by simp [barscanref31_TurnImage.l1] at h⟩
 | k + 1 => by
  obtain ⟨ih0, ih1⟩ := barscanref31_TurnImage.mono_l k
  refine ⟨?_, ?_⟩
  ·intro y0 y1 y2 y3 y4 y5 y6 y7
   unfold barscanref31_TurnImage.l0
   repeat' first
   | (with_reducible exact ih0 _ _ _ _ _ _ _ _)
   | (with_reducible exact ih1 _ _ _ _ _ _ _ _ _ _ _ _)
   | (with_reducible exact LeO.refl _)
   | (with_reducible exact LeO.none _)
   | (with_reducible refine LeO.ite ?_ ?_)
   | (with_reducible refine LeO.bind ?_ (fun _ => ?_))
   | exact ih0 _ _ _ _ _ _ _ _
   | exact ih1 _ _ _ _ _ _ _ _ _ _ _ _
   | exact LeO.none _
   | refine LeO.ite ?_ ?_
   | refine LeO.bind ?_ (fun _ => ?_)
  ·intro y0 y1 y2 y3 y4 y5 y6 y7 y8 y9 y10 y11
   unfold barscanref31_TurnImage.l1
   repeat' first
   | (with_reducible exact ih0 _ _ _ _ _ _ _ _)
   | (with_reducible exact ih1 _ _ _ _ _ _ _ _ _ _ _ _)
   | (with_reducible exact LeO.refl _)
   | (with_reducible exact LeO.none _)
   | (with_reducible refine LeO.ite ?_ ?_)
   | (with_reducible refine LeO.bind ?_ (fun _ => ?_))
   | exact ih0 _ _ _ _ _ _ _ _
   | exact ih1 _ _ _ _ _ _ _ _ _ _ _ _
   | exact LeO.none _
   | refine LeO.ite ?_ ?_
   | refine LeO.bind ?_ (fun _ => ?_)
theorem barscanref31_TurnImage.mono : ∀ a0 a1 a2 a3 k, LeO (barscanref31_TurnImage.f k a0 a1 a2 a3) (barscanref31_TurnImage.f (k + 1) a0 a1 a2 a3) := by
 intro a0 a1 a2 a3 k
 obtain ⟨ih0, ih1⟩ := barscanref31_TurnImage.mono_l k
 unfold barscanref31_TurnImage.f
 repeat' first
   | (with_reducible exact ih0 _ _ _ _ _ _ _ _)
   | (with_reducible exact ih1 _ _ _ _ _ _ _ _ _ _ _ _)
   | (with_reducible exact LeO.refl _)
   | (with_reducible exact LeO.none _)
   | (with_reducible refine LeO.ite ?_ ?_)
   | (with_reducible refine LeO.bind ?_ (fun _ => ?_))
   | exact ih0 _ _ _ _ _ _ _ _
   | exact ih1 _ _ _ _ _ _ _ _ _ _ _ _
   | exact LeO.none _
   | refine LeO.ite ?_ ?_
   | refine LeO.bind ?_ (fun _ => ?_)
def barscanref31_TurnImage.T3 : Bool × List (List Nat × List Nat) := (true, [([], []), ([0], [0]), ([], []), ([2], [2]), ([], []), ([], []), ([5], [5]), ([4, 6], [4, 6]), ([1, 3, 7], [1, 3, 7]), ([], []), ([9, 8, 7, 0, 1, 2, 3, 4, 5, 6, 7, 8, 9], [8, 9])])
def barscanref31_TurnImage.B3 : List Nat := [0, 1, 0, 4, 0, 0, 32, 112, 255, 0, 1023]
theorem barscanref31_TurnImage.tab3 : rtab .any (opsOf Try.f41 3) = barscanref31_TurnImage.T3 := by kernel_rfl
theorem barscanref31_TurnImage.bits3 : waitsOk barscanref31_TurnImage.T3.2 barscanref31_TurnImage.B3 = true := by kernel_rfl
def barscanref31_TurnImage.T11 : Bool × List (List Nat × List Nat) := (true, [([], []), ([0], [0]), ([], []), ([2], [2]), ([], []), ([4], [4]), ([], []), ([6], [6]), ([], []), ([5, 7, 8], [5, 7, 8]), ([3, 9], [3, 9]), ([10], [10]), ([11], [11]), ([1, 12, 9], [1, 12]), ([0, 1, 2, 3, 4, 5, 6, 7, 8, 9, 10, 11, 12, 13], []), ([14, 13, 13, 0, 1, 2, 3, 4, 5, 6, 7, 8, 9, 10, 11, 12, 13], [13, 14])])
def barscanref31_TurnImage.B11 : List Nat := [0, 1, 0, 4, 0, 16, 0, 64, 0, 496, 1020, 2044, 4092, 8191, 16383, 32767]
theorem barscanref31_TurnImage.tab11 : rtab .any (opsOf Try.f41 11) = barscanref31_TurnImage.T11 := by kernel_rfl
theorem barscanref31_TurnImage.bits11 : waitsOk barscanref31_TurnImage.T11.2 barscanref31_TurnImage.B11 = true := by kernel_rfl
set_option maxHeartbeats 8000000 in
set_option maxRecDepth 100000 in
theorem barscanref31_TurnImage.calls (k : Nat) (a0_0 : Int) (a0_1 : Int) (A0_2 : Option Addr) (c0_2 : Nat) (l0_2 : List Int) (a1 : Int) (r1 : Int) (r2 : Int) (r3 : List Int) (r4 : Int) (w : World) (hr0_2 : Kd.C (Kd.int .u8) w A0_2 l0_2.length l0_2) (hc0_2 : l0_2.length ≤ c0_2) (h : barscanref31_TurnImage.f k a0_0 a0_1 l0_2 a1 = some (r1, r2, r3, r4)) :
  Calls Try.prog 41 #[.agg #[.int .i64 a0_0, .int .i64 a0_1, .slice A0_2 l0_2.length c0_2], .int .i64 a1] w fun e w' => ∃ v2_ : Value, e = .returned (.tuple #[.agg #[.int .i64 r1, .int .i64 r2, v2_], .int .i64 r4]) ∧ Kd.R (Kd.int .u8) 5 w' w.heap.size (fun _ => True) v2_ r3 ∧ Below w.heap.size w w' := by
 have hu58 := Try.underlying58
 have HR0_2 := Aside0.mk hr0_2
 have HC0_2 := Aside0.mk hc0_2
 clear hr0_2 hc0_2
 have HB := Aside0.mk (Below.refl w.heap.size w)
 have H : ((barscanref31_ValidImage.f a0_0 a0_1 l0_2).bind fun t692 => (if t692 = true then ((some (([] : List Int) : List Int)).bind fun y693 => (if y693.length + l0_2.length < 140737488355328 then (barscanref31_TurnImage.l0 k a1 0 a0_0 a0_1 l0_2 a0_0 a0_1 (y693 ++ l0_2)) else (none))) else (some (0, 0, ([] : List Int), 1)))) = some (r1, r2, r3, r4) := h
 clear h
 replace H := Option.bind_eq_some_iff.mp H
 obtain ⟨t692, A30, H⟩ := H
 replace H : (if t692 = true then ((some (([] : List Int) : List Int)).bind fun y693 => (if y693.length + l0_2.length < 140737488355328 then (barscanref31_TurnImage.l0 k a1 0 a0_0 a0_1 l0_2 a0_0 a0_1 (y693 ++ l0_2)) else (none))) else (some (0, 0, ([] : List Int), 1))) = some (r1, r2, r3, r4) := H
 have A3 := Aside0.mk A30
 clear A30
 by_cases c4 : t692 = true
 ·subst c4
  have H1 : ((some (([] : List Int) : List Int)).bind fun y693 => (if y693.length + l0_2.length < 140737488355328 then (barscanref31_TurnImage.l0 k a1 0 a0_0 a0_1 l0_2 a0_0 a0_1 (y693 ++ l0_2)) else (none))) = some (r1, r2, r3, r4) := by rw [if_pos rfl] at H; exact H
  clear H
  have H := H1
  clear H1
  obtain ⟨y693, hy693⟩ : ∃ y_ : List Int, y_ = (([] : List Int)) := ⟨_, rfl⟩
  replace H : (if y693.length + l0_2.length < 140737488355328 then (barscanref31_TurnImage.l0 k a1 0 a0_0 a0_1 l0_2 a0_0 a0_1 (y693 ++ l0_2)) else (none)) = some (r1, r2, r3, r4) := by first | (rw [hy693]; with_reducible exact H) | (have H2_ := (Option.bind_some _ _).symm.trans H; rw [hy693]; with_reducible exact H2_) | (have H2_ := (Option.bind_some _ _).symm.trans H; with_reducible exact H2_) | with_reducible exact H | (rw [hy693]; exact H) | exact H
  have Ny693 := Aside0.mk hy693
  clear hy693
  by_cases c5 : y693.length + l0_2.length < 140737488355328
  ·rw [if_pos c5] at H
   have LMc5 := Aside0.mk c5
   clear c5
   obtain ⟨y696, hy696⟩ : ∃ y_ : List Int, y_ = (y693 ++ l0_2) := ⟨_, rfl⟩
   replace H : (barscanref31_TurnImage.l0 k a1 0 a0_0 a0_1 l0_2 a0_0 a0_1 y696) = some (r1, r2, r3, r4) := by first | (rw [hy696]; with_reducible exact H) | (have H2_ := (Option.bind_some _ _).symm.trans H; rw [hy696]; with_reducible exact H2_) | (have H2_ := (Option.bind_some _ _).symm.trans H; with_reducible exact H2_) | with_reducible exact H | (rw [hy696]; exact H) | exact H
   have Ny696 := Aside0.mk hy696
   clear hy696
   have H' := Aside0.mk H
   clear H
   go_enter Try.func41, Try.ntmps41
   try go_wp2_with (first | ((with_reducible refine gate_dst (N := 2) rfl ?_); refine box_event ?hg (N := 2) ?hd (cs := #[.int .i64 a0_0, .int .i64 a0_1, .slice A0_2 l0_2.length c0_2]) (t := 58) ?hr ?_; (case hd => rfl); (case hg => rfl); (case hr => first | (go_simp; done) | (go_simp; rfl)); intro gb690 hg w6 hbox hb; have n0_ := Aside0.mk (below_step (hb0 HB) hb); have n1_ := Aside0.mk (hbox); have n2_ := Aside0.mk ((by rw [hg]; exact (below_size (hb0 HB)) : w.heap.size ≤ gb690)); have n3_ := Aside0.mk ((by rw [hg]; exact (below_size (hb0 HB)) : w.heap.size ≤ gb690)); clear HB; have HB := n0_; have BK690 := n1_; have GW690 := n2_; have GE690 := n3_; clear n0_ n1_ n2_ n3_; clear hb hbox hg) | ((with_reducible refine gate_dst (N := 4) rfl ?_); refine box_event ?hg (N := 4) ?hd (cs := #[.int .i64 0, .int .i64 0, .slice none 0 0]) (t := 58) ?hr ?_; (case hd => rfl); (case hg => rfl); (case hr => first | (go_simp; done) | (go_simp; rfl)); intro gb691 hg w7 hbox hb; have n0_ := Aside0.mk (blk_below (bkx BK690) hb); have n1_ := Aside0.mk (below_step (hb1 HB GE690) hb); have n2_ := Aside0.mk (hbox); have n3_ := Aside0.mk ((by rw [hg]; exact (below_size (hb1 HB GE690)) : w.heap.size ≤ gb691)); have n4_ := Aside0.mk ((by rw [hg]; exact (below_size (hb1 HB GE690)) : w.heap.size ≤ gb691)); have n5_ := Aside0.mk (nel hg BK690 : gb690 ≠ gb691); have n6_ := Aside0.mk (neg hg BK690 : gb691 ≠ gb690); clear BK690; clear HB; have BK690 := n0_; have HB := n1_; have BK691 := n2_; have GW691 := n3_; have GE691 := n4_; have NB690_691 := n5_; have NB691_690 := n6_; clear n0_ n1_ n2_ n3_ n4_ n5_ n6_; clear hb hbox hg; have hnb8 := NB690_691.out; have hnc8 := NB691_690.out; have hcz9_0 : w7.cell? ⟨gb690, 0, none⟩ = some (.int .i64 a0_0) := (blk_cell BK690.out 0).trans rfl; have hcz9_1 : w7.cell? ⟨gb690, 1, none⟩ = some (.int .i64 a0_1) := (blk_cell BK690.out 1).trans rfl; have hcz9_2 : w7.cell? ⟨gb690, 2, none⟩ = some (.slice A0_2 l0_2.length c0_2) := (blk_cell BK690.out 2).trans rfl; have hfz9_0 := blk_frozen BK690.out 0; have hfz9_1 := blk_frozen BK690.out 1; have hfz9_2 := blk_frozen BK690.out 2) | ((with_reducible refine gate_callee (f := 54) rfl ?_); refine goesL_ (some 11) rfl rfl Try.func54 (by kernel_rfl) rfl #[.agg #[.int .i64 a0_0, .int .i64 a0_1, .slice A0_2 l0_2.length c0_2]] rfl mapx ?_; (with_reducible refine (barscanref31_ValidImage.calls a0_0 a0_1 _ _ l0_2 true _ ?side1 ?side2 A3.out).mono ?_); (case side1 => repeat (first | exact (Kd.C_below HR0_2.out HB.out) | (with_reducible refine Kd.C_alloc ?_ _) | (with_reducible refine Kd.C_drewN ?_ _) | (with_reducible refine Kd.C_drew ?_))); (case side2 => exact HC0_2.out); rintro e w10 ⟨rfl, hb⟩; refine ⟨_, rfl, ?_⟩; have n0_ := Aside0.mk (blk_below (bkx BK690) hb); have n1_ := Aside0.mk (blk_below (bkx BK691) hb); have n2_ := Aside0.mk (below_step (hb2 HB GE690 GE691) hb); clear BK690; clear BK691; clear HB; have BK690 := n0_; have BK691 := n1_; have HB := n2_; clear n0_ n1_ n2_; (try clear hb); (try clear hb2); (try clear hk); (try clear hi)))
   have n0_ := Aside0.mk (blk_drew BK690.out)
   have n1_ := Aside0.mk (blk_drew BK691.out)
   have n2_ := Aside0.mk (below_drew1 HB.out)
   clear BK690
   clear BK691
   clear HB
   have BK690 := n0_
   have BK691 := n1_
   have HB := n2_
   clear n0_ n1_ n2_
   refine start_ (n := 11) (S := fun w' => w'.cell? ⟨gb690, 0, none⟩ = some (.int .i64 a0_0) ∧ w'.cell? ⟨gb690, 1, none⟩ = some (.int .i64 a0_1) ∧ w'.cell? ⟨gb690, 2, none⟩ = some (.slice A0_2 l0_2.length c0_2)) (ds := []) #[false, false, false, false, false, false, false, false, false, false, false] (by kernel_rfl) rfl rfl ⟨(blk_cell BK690.out 0).trans rfl, (blk_cell BK690.out 1).trans rfl, (blk_cell BK690.out 2).trans rfl⟩ (fun hHeld => ?_); refine with_tabW barscanref31_TurnImage.tab3 barscanref31_TurnImage.bits3 (fun HT_ HW_ => ?_)
   generalize w10.drew = w11 at BK690 BK691 HB hHeld ⊢
   refine pure_ (i := 0) (N := some 14) (v := ?_) (a' := ?_) #[true, false, false, false, false, false, false, false, false, false, false] rfl rfl (any_of HT_.out (by kernel_rfl)) (fun _ _ _ h => h) (Or.inl ⟨by rfl, ?_⟩) ?_ ?_
   rotate_left
   ·intro w'
    go_simp
    with_reducible rfl
   rotate_left
   ·simp only [Act.put, List.setIfInBounds_toArray, List.set_cons_zero, List.set_cons_succ, i64_w, i32_w]
    rfl
   refine pure_ (i := 2) (N := some 16) (v := ?_) (a' := ?_) #[true, false, true, false, false, false, false, false, false, false, false] rfl rfl (any_of HT_.out (by kernel_rfl)) (fun _ _ _ h => h) (Or.inl ⟨by rfl, ?_⟩) ?_ ?_
   rotate_left
   ·intro w'
    go_simp
    with_reducible rfl
   rotate_left
   ·simp only [Act.put, List.setIfInBounds_toArray, List.set_cons_zero, List.set_cons_succ, i64_w, i32_w]
    rfl
   refine pure_ (i := 5) (N := some 19) (v := ?_) (a' := ?_) #[true, false, true, false, false, true, false, false, false, false, false] rfl rfl (any_of HT_.out (by kernel_rfl)) (fun _ _ _ h => h) (Or.inl ⟨by rfl, ?_⟩) ?_ ?_
   rotate_left
   ·intro w'
    go_simp
    with_reducible rfl
   rotate_left
   ·simp only [Act.put, List.setIfInBounds_toArray, List.set_cons_zero, List.set_cons_succ, i64_w, i32_w]
    rfl
   refine take_ (i := 1) (N := some 15) (v := ?_) (a' := ?_) #[true, true, true, false, false, true, false, false, false, false, false] rfl rfl (take_ofW HT_.out HW_.out (by kernel_rfl)) (fun _ _ _ h => h) (Or.inl ⟨by rfl, ?_⟩) hHeld ?_ ?_
   rotate_left
   ·rintro w' ⟨s0, s1, s2⟩
    go_simp
    with_reducible rfl
   rotate_left
   ·simp only [Act.put, List.setIfInBounds_toArray, List.set_cons_zero, List.set_cons_succ, i64_w, i32_w]
    rfl
   refine take_ (i := 3) (N := some 17) (v := ?_) (a' := ?_) #[true, true, true, true, false, true, false, false, false, false, false] rfl rfl (take_ofW HT_.out HW_.out (by kernel_rfl)) (fun _ _ _ h => h) (Or.inl ⟨by rfl, ?_⟩) hHeld ?_ ?_
   rotate_left
   ·rintro w' ⟨s0, s1, s2⟩
    go_simp
    with_reducible rfl
   rotate_left
   ·simp only [Act.put, List.setIfInBounds_toArray, List.set_cons_zero, List.set_cons_succ, i64_w, i32_w]
    rfl
   refine take_ (i := 6) (N := some 20) (v := ?_) (a' := ?_) #[true, true, true, true, false, true, true, false, false, false, false] rfl rfl (take_ofW HT_.out HW_.out (by kernel_rfl)) (fun _ _ _ h => h) (Or.inl ⟨by rfl, ?_⟩) hHeld ?_ ?_
   rotate_left
   ·rintro w' ⟨s0, s1, s2⟩
    go_simp
    with_reducible rfl
   rotate_left
   ·simp only [Act.put, List.setIfInBounds_toArray, List.set_cons_zero, List.set_cons_succ, i64_w, i32_w]
    rfl
   refine join_ (σ := Value × Value × Nat) 1 #[true, true, true, true, true, true, true, true, true, true, false] (fun s_ => [(18, s_.1), (21, s_.2.1), (6, .pointer (some ⟨s_.2.2, 0, none⟩)), (22, .agg #[.int .i64 a0_0, .int .i64 a0_1, s_.2.1])]) (fun s_ w' => (w'.cell? ⟨gb690, 0, none⟩ = some (.int .i64 a0_0) ∧ w'.cell? ⟨gb690, 1, none⟩ = some (.int .i64 a0_1) ∧ w'.cell? ⟨gb690, 2, none⟩ = some (.slice A0_2 l0_2.length c0_2)) ∧ (Kd.R (Kd.int .u8) 5 w' w.heap.size (fun _ => True) s_.2.1 y696) ∧ (w'.heap[gb690]? = some (.cells #[.int .i64 a0_0, .int .i64 a0_1, .slice A0_2 l0_2.length c0_2] 58 (0, 0))) ∧ (w'.heap[gb691]? = some (.cells #[.int .i64 0, .int .i64 0, .slice none 0 0] 58 (0, 0))) ∧ (w'.heap[s_.2.2]? = some (.cells #[.int .i64 0, .int .i64 0, .slice none 0 0] 58 (0, 0))) ∧ (w.heap.size ≤ s_.2.2) ∧ (w.heap.size ≤ s_.2.2) ∧ (gb690 ≠ s_.2.2) ∧ (s_.2.2 ≠ gb690) ∧ (gb691 ≠ s_.2.2) ∧ (s_.2.2 ≠ gb691) ∧ (Below w.heap.size w w')) ?_ ?_
   rotate_left
   ·intro hCont
    refine two_ (i := 4) (j := 9) (Ni := some 18) (Nj := some 6) #[true, true, true, true, true, true, true, false, false, false, false] #[true, true, true, true, false, true, true, false, false, true, false] rfl rfl rfl rfl (two_of HT_.out (by kernel_rfl)) (by decide) (by decide) (fun K hK => ?_) (fun K hK => ?_)
    ·skip
     refine Kd.R_lit_step (Kd.int .u8) _ 5 ?hg (N := 18) ?hd (xs := ([] : List Int)) (inner := []) (ok := fun _ => True) (okp := fun _ => True) ?hr ?hp (fun _ hk => hk) trivial (Below.refl _ _) (Nat.le_refl _) (by simp) ?_; (case hd => rfl); (case hg => rfl); (case hr => first | (go_simp; done) | (go_simp; rfl)); (case hp => exact (Reps.none _ _))
     intro v694 w12 ho13 hb hg_ hnew_
     clear hg_ hnew_
     (first | rw [← Ny693.out] at ho13 | (simp only [Int.reduceToNat] at ho13; rw [← Ny693.out] at ho13))
     have n0_ := Aside0.mk (Kd.R_lower ho13 (below_size (hb2 HB GE690 GE691)))
     have n1_ := Aside0.mk (blk_below (bkx BK690) hb)
     have n2_ := Aside0.mk (blk_below (bkx BK691) hb)
     have n3_ := Aside0.mk (below_step (hb2 HB GE690 GE691) hb)
     clear BK690
     clear BK691
     clear HB
     have HO695 := n0_
     have BK690 := n1_
     have BK691 := n2_
     have HB := n3_
     clear n0_ n1_ n2_ n3_
     clear hb ho13
     refine hK.out _ _ ⟨(blk_cell BK690.out 0).trans rfl, (blk_cell BK690.out 1).trans rfl, (blk_cell BK690.out 2).trans rfl⟩ (fun hHeld => ?_)
     clear hK K
     refine norm_ (a' := ?_) ?_ ?_
     rotate_left
     ·show Act.put _ (some 18) _ = _
      simp only [Act.put, List.setIfInBounds_toArray, List.set_cons_zero, List.set_cons_succ, i64_w, i32_w]
      rfl
     refine two_ (i := 7) (j := 9) (Ni := some 21) (Nj := some 6) #[true, true, true, true, true, true, true, true, false, false, false] #[true, true, true, true, true, true, true, false, false, true, false] rfl rfl rfl rfl (two_of HT_.out (by kernel_rfl)) (by decide) (by decide) (fun K hK => ?_) (fun K hK => ?_)
     ·skip
      refine Kd.R_append_rows_step (Kd.int .u8) (w0 := w) w.heap.size (by rfl) (.tmp 18) (.tmp 20) 56 5 (.int .u8 0) 1 rfl Try.underlying56 info5 rfl (by decide) (by omega) v694 y693 l0_2 _ _ _ (fun _ => True) (fun _ => False) rfl rfl ?aO ?aR (fun _ _ h => h) (fun _ h => h.elim) ?aF ?aB ?aS ?aL ?_
      (case aR => repeat (first | exact (Kd.C_below HR0_2.out HB.out) | (with_reducible refine Kd.C_alloc ?_ _) | (with_reducible refine Kd.C_drewN ?_ _) | (with_reducible refine Kd.C_drew ?_)))
      (case aB => exact (hb2 HB GE690 GE691))
      (case aF => exact (fun _ _ => trivial))
      (case aO => exact (rkx HO695))
      (case aS => exact (below_size (hb2 HB GE690 GE691)))
      (case aL => have := LMc5.out; omega)
      intro v697 w14 ho hb hg hat
      rw [← Ny696.out] at ho
      have n0_ := Aside0.mk (blk_grown (g := gb690) (o := .cells #[.int .i64 a0_0, .int .i64 a0_1, .slice A0_2 l0_2.length c0_2] 58 (0, 0)) (bkx BK690) hg (Kd.R_ne HO695.out BK690.out (by decide)))
      have n1_ := Aside0.mk (blk_grown (g := gb691) (o := .cells #[.int .i64 0, .int .i64 0, .slice none 0 0] 58 (0, 0)) (bkx BK691) hg (Kd.R_ne HO695.out BK691.out (by decide)))
      have n2_ := Aside0.mk (hb)
      have n3_ := Aside0.mk (ho)
      clear BK690
      clear BK691
      clear HB
      clear HO695
      have BK690 := n0_
      have BK691 := n1_
      have HB := n2_
      have HO698 := n3_
      clear n0_ n1_ n2_ n3_
      clear ho hb hg hat
      obtain ⟨Ao15, co15, eo15⟩ := Kd.R_slice HO698.out
      (first | subst eo15 | (injection eo15 with f1_ f2_ f3_; have f4_ := f1_.symm; have f5_ := f3_.symm; clear f1_ f2_ f3_; subst f4_; subst f5_))
      refine hK.out _ _ ⟨(blk_cell BK690.out 0).trans rfl, (blk_cell BK690.out 1).trans rfl, (blk_cell BK690.out 2).trans rfl⟩ (fun hHeld => ?_)
      clear hK K
      refine norm_ (a' := ?_) ?_ ?_
      rotate_left
      ·show Act.put _ (some 21) _ = _
       simp only [Act.put, List.setIfInBounds_toArray, List.set_cons_zero, List.set_cons_succ, i64_w, i32_w]
       rfl
      refine pure_ (i := 8) (N := some 22) (v := ?_) (a' := ?_) #[true, true, true, true, true, true, true, true, true, false, false] rfl rfl (any_of HT_.out (by kernel_rfl)) (fun _ _ _ h => h) (Or.inl ⟨by rfl, ?_⟩) ?_ ?_
      rotate_left
      ·intro w'
       go_simp
       with_reducible rfl
      rotate_left
      ·simp only [Act.put, List.setIfInBounds_toArray, List.set_cons_zero, List.set_cons_succ, i64_w, i32_w]
       rfl
      refine one_ (i := 9) (N := some 6) #[true, true, true, true, true, true, true, true, true, true, false] rfl rfl (one_of HT_.out (by kernel_rfl)) (by decide) (fun K hK => ?_)
      refine box_step ?hg (N := 6) ?hd (cs := #[.int .i64 0, .int .i64 0, .slice none 0 0]) (t := 58) ?hr ?_; (case hd => rfl); (case hg => rfl); (case hr => first | (go_simp; done) | (go_simp; rfl))
      intro gb699 hg w16 hbox hb
      have n0_ := Aside0.mk (Kd.R_below (rkx HO698) hb)
      have n1_ := Aside0.mk (blk_below (bkx BK690) hb)
      have n2_ := Aside0.mk (blk_below (bkx BK691) hb)
      have n3_ := Aside0.mk (below_step (hb2 HB GE690 GE691) hb)
      have n4_ := Aside0.mk (hbox)
      have n5_ := Aside0.mk ((by rw [hg]; exact (below_size (hb2 HB GE690 GE691)) : w.heap.size ≤ gb699))
      have n6_ := Aside0.mk ((by rw [hg]; exact (below_size (hb2 HB GE690 GE691)) : w.heap.size ≤ gb699))
      have n7_ := Aside0.mk (nel hg BK690 : gb690 ≠ gb699)
      have n8_ := Aside0.mk (neg hg BK690 : gb699 ≠ gb690)
      have n9_ := Aside0.mk (nel hg BK691 : gb691 ≠ gb699)
      have n10_ := Aside0.mk (neg hg BK691 : gb699 ≠ gb691)
      clear HO698
      clear BK690
      clear BK691
      clear HB
      have HO698 := n0_
      have BK690 := n1_
      have BK691 := n2_
      have HB := n3_
      have BK699 := n4_
      have GW699 := n5_
      have GE699 := n6_
      have NB690_699 := n7_
      have NB699_690 := n8_
      have NB691_699 := n9_
      have NB699_691 := n10_
      clear n0_ n1_ n2_ n3_ n4_ n5_ n6_ n7_ n8_ n9_ n10_
      clear hb hbox hg
      refine hK.out _ _ ⟨(blk_cell BK690.out 0).trans rfl, (blk_cell BK690.out 1).trans rfl, (blk_cell BK690.out 2).trans rfl⟩ (fun hHeld => ?_)
      clear hK K
      refine norm_ (a' := ?_) ?_ ?_
      rotate_left
      ·show Act.put _ (some 6) _ = _
       simp only [Act.put, List.setIfInBounds_toArray, List.set_cons_zero, List.set_cons_succ, i64_w, i32_w]
       rfl
      exact norm_ (by simp only [putAll, Act.put, List.setIfInBounds_toArray, List.set_cons_zero, List.set_cons_succ]) (hCont (v694, .slice Ao15 y696.length co15, gb699) _ ⟨hHeld, (rkx HO698), (bkx BK690), (bkx BK691), (bkx BK699), GW699.out, GE699.out, NB690_699.out, NB699_690.out, NB691_699.out, NB699_691.out, (hb3 HB GE690 GE691 GE699)⟩)
     ·skip
      refine box_step ?hg (N := 6) ?hd (cs := #[.int .i64 0, .int .i64 0, .slice none 0 0]) (t := 58) ?hr ?_; (case hd => rfl); (case hg => rfl); (case hr => first | (go_simp; done) | (go_simp; rfl))
      intro gb699 hg w14 hbox hb
      have n0_ := Aside0.mk (Kd.R_below (rkx HO695) hb)
      have n1_ := Aside0.mk (blk_below (bkx BK690) hb)
      have n2_ := Aside0.mk (blk_below (bkx BK691) hb)
      have n3_ := Aside0.mk (below_step (hb2 HB GE690 GE691) hb)
      have n4_ := Aside0.mk (hbox)
      have n5_ := Aside0.mk ((by rw [hg]; exact (below_size (hb2 HB GE690 GE691)) : w.heap.size ≤ gb699))
      have n6_ := Aside0.mk ((by rw [hg]; exact (below_size (hb2 HB GE690 GE691)) : w.heap.size ≤ gb699))
      have n7_ := Aside0.mk (nel hg BK690 : gb690 ≠ gb699)
      have n8_ := Aside0.mk (neg hg BK690 : gb699 ≠ gb690)
      have n9_ := Aside0.mk (nel hg BK691 : gb691 ≠ gb699)
      have n10_ := Aside0.mk (neg hg BK691 : gb699 ≠ gb691)
      clear HO695
      clear BK690
      clear BK691
      clear HB
      have HO695 := n0_
      have BK690 := n1_
      have BK691 := n2_
      have HB := n3_
      have BK699 := n4_
      have GW699 := n5_
      have GE699 := n6_
      have NB690_699 := n7_
      have NB699_690 := n8_
      have NB691_699 := n9_
      have NB699_691 := n10_
      clear n0_ n1_ n2_ n3_ n4_ n5_ n6_ n7_ n8_ n9_ n10_
      clear hb hbox hg
      refine hK.out _ _ ⟨(blk_cell BK690.out 0).trans rfl, (blk_cell BK690.out 1).trans rfl, (blk_cell BK690.out 2).trans rfl⟩ (fun hHeld => ?_)
      clear hK K
      refine norm_ (a' := ?_) ?_ ?_
      rotate_left
      ·show Act.put _ (some 6) _ = _
       simp only [Act.put, List.setIfInBounds_toArray, List.set_cons_zero, List.set_cons_succ, i64_w, i32_w]
       rfl
      refine one_ (i := 7) (N := some 21) #[true, true, true, true, true, true, true, true, false, true, false] rfl rfl (one_of HT_.out (by kernel_rfl)) (by decide) (fun K hK => ?_)
      refine Kd.R_append_rows_step (Kd.int .u8) (w0 := w) w.heap.size (by rfl) (.tmp 18) (.tmp 20) 56 5 (.int .u8 0) 1 rfl Try.underlying56 info5 rfl (by decide) (by omega) v694 y693 l0_2 _ _ _ (fun _ => True) (fun _ => False) rfl rfl ?aO ?aR (fun _ _ h => h) (fun _ h => h.elim) ?aF ?aB ?aS ?aL ?_
      (case aR => repeat (first | exact (Kd.C_below HR0_2.out HB.out) | (with_reducible refine Kd.C_alloc ?_ _) | (with_reducible refine Kd.C_drewN ?_ _) | (with_reducible refine Kd.C_drew ?_)))
      (case aB => exact (hb3 HB GE690 GE691 GE699))
      (case aF => exact (fun _ _ => trivial))
      (case aO => exact (rkx HO695))
      (case aS => exact (below_size (hb3 HB GE690 GE691 GE699)))
      (case aL => have := LMc5.out; omega)
      intro v697 w15 ho hb hg hat
      rw [← Ny696.out] at ho
      have n0_ := Aside0.mk (blk_grown (g := gb690) (o := .cells #[.int .i64 a0_0, .int .i64 a0_1, .slice A0_2 l0_2.length c0_2] 58 (0, 0)) (bkx BK690) hg (Kd.R_ne HO695.out BK690.out (by decide)))
      have n1_ := Aside0.mk (blk_grown (g := gb691) (o := .cells #[.int .i64 0, .int .i64 0, .slice none 0 0] 58 (0, 0)) (bkx BK691) hg (Kd.R_ne HO695.out BK691.out (by decide)))
      have n2_ := Aside0.mk (blk_grown (g := gb699) (o := .cells #[.int .i64 0, .int .i64 0, .slice none 0 0] 58 (0, 0)) (bkx BK699) hg (Kd.R_ne HO695.out BK699.out (by decide)))
      have n3_ := Aside0.mk (hb)
      have n4_ := Aside0.mk (ho)
      clear BK690
      clear BK691
      clear BK699
      clear HB
      clear HO695
      have BK690 := n0_
      have BK691 := n1_
      have BK699 := n2_
      have HB := n3_
      have HO698 := n4_
      clear n0_ n1_ n2_ n3_ n4_
      clear ho hb hg hat
      obtain ⟨Ao16, co16, eo16⟩ := Kd.R_slice HO698.out
      (first | subst eo16 | (injection eo16 with f1_ f2_ f3_; have f4_ := f1_.symm; have f5_ := f3_.symm; clear f1_ f2_ f3_; subst f4_; subst f5_))
      refine hK.out _ _ ⟨(blk_cell BK690.out 0).trans rfl, (blk_cell BK690.out 1).trans rfl, (blk_cell BK690.out 2).trans rfl⟩ (fun hHeld => ?_)
      clear hK K
      refine norm_ (a' := ?_) ?_ ?_
      rotate_left
      ·show Act.put _ (some 21) _ = _
       simp only [Act.put, List.setIfInBounds_toArray, List.set_cons_zero, List.set_cons_succ, i64_w, i32_w]
       rfl
      refine pure_ (i := 8) (N := some 22) (v := ?_) (a' := ?_) #[true, true, true, true, true, true, true, true, true, true, false] rfl rfl (any_of HT_.out (by kernel_rfl)) (fun _ _ _ h => h) (Or.inl ⟨by rfl, ?_⟩) ?_ ?_
      rotate_left
      ·intro w'
       go_simp
       with_reducible rfl
      rotate_left
      ·simp only [Act.put, List.setIfInBounds_toArray, List.set_cons_zero, List.set_cons_succ, i64_w, i32_w]
       rfl
      exact norm_ (by simp only [putAll, Act.put, List.setIfInBounds_toArray, List.set_cons_zero, List.set_cons_succ]) (hCont (v694, .slice Ao16 y696.length co16, gb699) _ ⟨hHeld, (rkx HO698), (bkx BK690), (bkx BK691), (bkx BK699), GW699.out, GE699.out, NB690_699.out, NB699_690.out, NB691_699.out, NB699_691.out, (hb3 HB GE690 GE691 GE699)⟩)
    ·skip
     refine box_step ?hg (N := 6) ?hd (cs := #[.int .i64 0, .int .i64 0, .slice none 0 0]) (t := 58) ?hr ?_; (case hd => rfl); (case hg => rfl); (case hr => first | (go_simp; done) | (go_simp; rfl))
     intro gb699 hg w12 hbox hb
     have n0_ := Aside0.mk (blk_below (bkx BK690) hb)
     have n1_ := Aside0.mk (blk_below (bkx BK691) hb)
     have n2_ := Aside0.mk (below_step (hb2 HB GE690 GE691) hb)
     have n3_ := Aside0.mk (hbox)
     have n4_ := Aside0.mk ((by rw [hg]; exact (below_size (hb2 HB GE690 GE691)) : w.heap.size ≤ gb699))
     have n5_ := Aside0.mk ((by rw [hg]; exact (below_size (hb2 HB GE690 GE691)) : w.heap.size ≤ gb699))
     have n6_ := Aside0.mk (nel hg BK690 : gb690 ≠ gb699)
     have n7_ := Aside0.mk (neg hg BK690 : gb699 ≠ gb690)
     have n8_ := Aside0.mk (nel hg BK691 : gb691 ≠ gb699)
     have n9_ := Aside0.mk (neg hg BK691 : gb699 ≠ gb691)
     clear BK690
     clear BK691
     clear HB
     have BK690 := n0_
     have BK691 := n1_
     have HB := n2_
     have BK699 := n3_
     have GW699 := n4_
     have GE699 := n5_
     have NB690_699 := n6_
     have NB699_690 := n7_
     have NB691_699 := n8_
     have NB699_691 := n9_
     clear n0_ n1_ n2_ n3_ n4_ n5_ n6_ n7_ n8_ n9_
     clear hb hbox hg
     refine hK.out _ _ ⟨(blk_cell BK690.out 0).trans rfl, (blk_cell BK690.out 1).trans rfl, (blk_cell BK690.out 2).trans rfl⟩ (fun hHeld => ?_)
     clear hK K
     refine norm_ (a' := ?_) ?_ ?_
     rotate_left
     ·show Act.put _ (some 6) _ = _
      simp only [Act.put, List.setIfInBounds_toArray, List.set_cons_zero, List.set_cons_succ, i64_w, i32_w]
      rfl
     refine one_ (i := 4) (N := some 18) #[true, true, true, true, true, true, true, false, false, true, false] rfl rfl (one_of HT_.out (by kernel_rfl)) (by decide) (fun K hK => ?_)
     refine Kd.R_lit_step (Kd.int .u8) _ 5 ?hg (N := 18) ?hd (xs := ([] : List Int)) (inner := []) (ok := fun _ => True) (okp := fun _ => True) ?hr ?hp (fun _ hk => hk) trivial (Below.refl _ _) (Nat.le_refl _) (by simp) ?_; (case hd => rfl); (case hg => rfl); (case hr => first | (go_simp; done) | (go_simp; rfl)); (case hp => exact (Reps.none _ _))
     intro v694 w13 ho14 hb hg_ hnew_
     clear hg_ hnew_
     (first | rw [← Ny693.out] at ho14 | (simp only [Int.reduceToNat] at ho14; rw [← Ny693.out] at ho14))
     have n0_ := Aside0.mk (Kd.R_lower ho14 (below_size (hb3 HB GE690 GE691 GE699)))
     have n1_ := Aside0.mk (blk_below (bkx BK690) hb)
     have n2_ := Aside0.mk (blk_below (bkx BK691) hb)
     have n3_ := Aside0.mk (blk_below (bkx BK699) hb)
     have n4_ := Aside0.mk (below_step (hb3 HB GE690 GE691 GE699) hb)
     clear BK690
     clear BK691
     clear BK699
     clear HB
     have HO695 := n0_
     have BK690 := n1_
     have BK691 := n2_
     have BK699 := n3_
     have HB := n4_
     clear n0_ n1_ n2_ n3_ n4_
     clear hb ho14
     refine hK.out _ _ ⟨(blk_cell BK690.out 0).trans rfl, (blk_cell BK690.out 1).trans rfl, (blk_cell BK690.out 2).trans rfl⟩ (fun hHeld => ?_)
     clear hK K
     refine norm_ (a' := ?_) ?_ ?_
     rotate_left
     ·show Act.put _ (some 18) _ = _
      simp only [Act.put, List.setIfInBounds_toArray, List.set_cons_zero, List.set_cons_succ, i64_w, i32_w]
      rfl
     refine one_ (i := 7) (N := some 21) #[true, true, true, true, true, true, true, true, false, true, false] rfl rfl (one_of HT_.out (by kernel_rfl)) (by decide) (fun K hK => ?_)
     refine Kd.R_append_rows_step (Kd.int .u8) (w0 := w) w.heap.size (by rfl) (.tmp 18) (.tmp 20) 56 5 (.int .u8 0) 1 rfl Try.underlying56 info5 rfl (by decide) (by omega) v694 y693 l0_2 _ _ _ (fun _ => True) (fun _ => False) rfl rfl ?aO ?aR (fun _ _ h => h) (fun _ h => h.elim) ?aF ?aB ?aS ?aL ?_
     (case aR => repeat (first | exact (Kd.C_below HR0_2.out HB.out) | (with_reducible refine Kd.C_alloc ?_ _) | (with_reducible refine Kd.C_drewN ?_ _) | (with_reducible refine Kd.C_drew ?_)))
     (case aB => exact (hb3 HB GE690 GE691 GE699))
     (case aF => exact (fun _ _ => trivial))
     (case aO => exact (rkx HO695))
     (case aS => exact (below_size (hb3 HB GE690 GE691 GE699)))
     (case aL => have := LMc5.out; omega)
     intro v697 w15 ho hb hg hat
     rw [← Ny696.out] at ho
     have n0_ := Aside0.mk (blk_grown (g := gb690) (o := .cells #[.int .i64 a0_0, .int .i64 a0_1, .slice A0_2 l0_2.length c0_2] 58 (0, 0)) (bkx BK690) hg (Kd.R_ne HO695.out BK690.out (by decide)))
     have n1_ := Aside0.mk (blk_grown (g := gb691) (o := .cells #[.int .i64 0, .int .i64 0, .slice none 0 0] 58 (0, 0)) (bkx BK691) hg (Kd.R_ne HO695.out BK691.out (by decide)))
     have n2_ := Aside0.mk (blk_grown (g := gb699) (o := .cells #[.int .i64 0, .int .i64 0, .slice none 0 0] 58 (0, 0)) (bkx BK699) hg (Kd.R_ne HO695.out BK699.out (by decide)))
     have n3_ := Aside0.mk (hb)
     have n4_ := Aside0.mk (ho)
     clear BK690
     clear BK691
     clear BK699
     clear HB
     clear HO695
     have BK690 := n0_
     have BK691 := n1_
     have BK699 := n2_
     have HB := n3_
     have HO698 := n4_
     clear n0_ n1_ n2_ n3_ n4_
     clear ho hb hg hat
     obtain ⟨Ao16, co16, eo16⟩ := Kd.R_slice HO698.out
     (first | subst eo16 | (injection eo16 with f1_ f2_ f3_; have f4_ := f1_.symm; have f5_ := f3_.symm; clear f1_ f2_ f3_; subst f4_; subst f5_))
     refine hK.out _ _ ⟨(blk_cell BK690.out 0).trans rfl, (blk_cell BK690.out 1).trans rfl, (blk_cell BK690.out 2).trans rfl⟩ (fun hHeld => ?_)
     clear hK K
     refine norm_ (a' := ?_) ?_ ?_
     rotate_left
     ·show Act.put _ (some 21) _ = _
      simp only [Act.put, List.setIfInBounds_toArray, List.set_cons_zero, List.set_cons_succ, i64_w, i32_w]
      rfl
     refine pure_ (i := 8) (N := some 22) (v := ?_) (a' := ?_) #[true, true, true, true, true, true, true, true, true, true, false] rfl rfl (any_of HT_.out (by kernel_rfl)) (fun _ _ _ h => h) (Or.inl ⟨by rfl, ?_⟩) ?_ ?_
     rotate_left
     ·intro w'
      go_simp
      with_reducible rfl
     rotate_left
     ·simp only [Act.put, List.setIfInBounds_toArray, List.set_cons_zero, List.set_cons_succ, i64_w, i32_w]
      rfl
     exact norm_ (by simp only [putAll, Act.put, List.setIfInBounds_toArray, List.set_cons_zero, List.set_cons_succ]) (hCont (v694, .slice Ao16 y696.length co16, gb699) _ ⟨hHeld, (rkx HO698), (bkx BK690), (bkx BK691), (bkx BK699), GW699.out, GE699.out, NB690_699.out, NB699_690.out, NB691_699.out, NB699_691.out, (hb3 HB GE690 GE691 GE699)⟩)
   rintro ⟨v694, v697, gb699⟩ w17 ⟨hS_, h0_, h1_, h2_, h3_, h4_, h5_, h6_, h7_, h8_, h9_, h10_⟩
   have n0_ : Aside0 (Kd.R (Kd.int .u8) 5 w17 w.heap.size (fun _ => True) v697 y696) := ⟨h0_⟩
   have n1_ : Aside0 (w17.heap[gb690]? = some (.cells #[.int .i64 a0_0, .int .i64 a0_1, .slice A0_2 l0_2.length c0_2] 58 (0, 0))) := ⟨h1_⟩
   have n2_ : Aside0 (w17.heap[gb691]? = some (.cells #[.int .i64 0, .int .i64 0, .slice none 0 0] 58 (0, 0))) := ⟨h2_⟩
   have n3_ : Aside0 (w17.heap[gb699]? = some (.cells #[.int .i64 0, .int .i64 0, .slice none 0 0] 58 (0, 0))) := ⟨h3_⟩
   have n4_ : Aside0 (w.heap.size ≤ gb699) := ⟨h4_⟩
   have n5_ : Aside0 (w.heap.size ≤ gb699) := ⟨h5_⟩
   have n6_ : Aside0 (gb690 ≠ gb699) := ⟨h6_⟩
   have n7_ : Aside0 (gb699 ≠ gb690) := ⟨h7_⟩
   have n8_ : Aside0 (gb691 ≠ gb699) := ⟨h8_⟩
   have n9_ : Aside0 (gb699 ≠ gb691) := ⟨h9_⟩
   have n10_ : Aside0 (Below w.heap.size w w17) := ⟨h10_⟩
   clear BK690
   clear BK691
   clear HB
   clear h0_ h1_ h2_ h3_ h4_ h5_ h6_ h7_ h8_ h9_ h10_
   have HO698 := n0_
   have BK690 := n1_
   have BK691 := n2_
   have BK699 := n3_
   have GW699 := n4_
   have GE699 := n5_
   have NB690_699 := n6_
   have NB699_690 := n7_
   have NB691_699 := n8_
   have NB699_691 := n9_
   have HB := n10_
   clear n0_ n1_ n2_ n3_ n4_ n5_ n6_ n7_ n8_ n9_ n10_
   have hHeld : w17.cell? ⟨gb690, 0, none⟩ = some (.int .i64 a0_0) ∧ w17.cell? ⟨gb690, 1, none⟩ = some (.int .i64 a0_1) ∧ w17.cell? ⟨gb690, 2, none⟩ = some (.slice A0_2 l0_2.length c0_2) := hS_
   obtain ⟨Ao18, co18, eo18⟩ := Kd.R_slice HO698.out
   (first | subst eo18 | (injection eo18 with f1_ f2_ f3_; have f4_ := f1_.symm; have f5_ := f3_.symm; clear f1_ f2_ f3_; subst f4_; subst f5_))
   refine norm_ (a' := ?_) ?_ ?_
   rotate_left
   ·simp only [putAll, Act.put, List.setIfInBounds_toArray, List.set_cons_zero, List.set_cons_succ]
    rfl
   refine one_ (i := 10) (N := none) #[true, true, true, true, true, true, true, true, true, true, true] rfl rfl (one_of HT_.out (by kernel_rfl)) (by decide) (fun K hK => ?_)
   have hs19 : w17.cell? ⟨gb699, 0, none⟩ = some (.int .i64 0) := (blk_cell BK699.out 0).trans rfl
   have hfs19 := blk_frozen BK699.out 0
   have hns19_0 := NB690_699.out
   have hns19_1 := NB691_699.out
   have hms19_0 := NB699_690.out
   have hms19_1 := NB699_691.out
   have hs20 : w17.cell? ⟨gb699, 1, none⟩ = some (.int .i64 0) := (blk_cell BK699.out 1).trans rfl
   have hfs20 := blk_frozen BK699.out 1
   have hns20_0 := NB690_699.out
   have hns20_1 := NB691_699.out
   have hms20_0 := NB699_690.out
   have hms20_1 := NB699_691.out
   have hs21 : w17.cell? ⟨gb699, 2, none⟩ = some (.slice none 0 0) := (blk_cell BK699.out 2).trans rfl
   have hfs21 := blk_frozen BK699.out 2
   have hns21_0 := NB690_699.out
   have hns21_1 := NB691_699.out
   have hms21_0 := NB699_690.out
   have hms21_1 := NB699_691.out
   refine skip_ (w1 := ?_) (by rfl) rfl ?_ ?_
   rotate_left
   ·go_simp
    rfl
   refine hK.out _ _ ⟨((cell_far (p := ⟨gb699, _, none⟩) NB690_699.out _).trans (((cell_far (p := ⟨gb699, _, none⟩) NB690_699.out _).trans (((cell_far (p := ⟨gb699, _, none⟩) NB690_699.out _).trans (hHeld.1)))))), ((cell_far (p := ⟨gb699, _, none⟩) NB690_699.out _).trans (((cell_far (p := ⟨gb699, _, none⟩) NB690_699.out _).trans (((cell_far (p := ⟨gb699, _, none⟩) NB690_699.out _).trans (hHeld.2.1)))))), ((cell_far (p := ⟨gb699, _, none⟩) NB690_699.out _).trans (((cell_far (p := ⟨gb699, _, none⟩) NB690_699.out _).trans (((cell_far (p := ⟨gb699, _, none⟩) NB690_699.out _).trans (hHeld.2.2))))))⟩ (fun hHeld => ?_)
   clear hK K
   refine done_ (done_of HT_.out (by kernel_rfl)) ?_
   try go_wp2
   go_loopg [7] k (fun kq v7 w' => ∃ (x7_1 : Int) (x700000_1 : Int) (x700001_1 : Int) (x700002_1 : List Int) (u700002 : Value), v7 = .int .i64 x7_1 ∧ Aside0 (barscanref31_TurnImage.l0 kq a1 x7_1 a0_0 a0_1 l0_2 x700000_1 x700001_1 x700002_1 = some (r1, r2, r3, r4)) ∧ Aside0 (kq ≤ k) ∧ Aside0 (Kd.R (Kd.int .u8) 5 w' w.heap.size (fun _ => True) u700002 x700002_1) ∧ Aside0 (w'.heap[gb690]? = some (.cells #[.int .i64 a0_0, .int .i64 a0_1, (.slice A0_2 l0_2.length c0_2)] 58 (0, 0))) ∧ Aside0 (w'.heap[gb691]? = some (.cells #[.int .i64 0, .int .i64 0, (.slice none 0 0)] 58 (0, 0))) ∧ Aside0 (w'.heap[gb699]? = some (.cells #[.int .i64 x700000_1, .int .i64 x700001_1, u700002] 58 (0, 0))) ∧ Aside0 (Below w.heap.size w w'))
   case atStart => exact ⟨(0), (a0_0), (a0_1), (y696), (.slice Ao18 y696.length co18), (by first | rfl | (simp; done) | (simp [*]; done)), H', ⟨Nat.le_refl _⟩, ⟨by refine rkt ?_; exact Kd.R_mono (Kd.R_far (p := ⟨gb699, 2, none⟩) (Kd.R_far (p := ⟨gb699, 1, none⟩) (Kd.R_far (p := ⟨gb699, 0, none⟩) (Kd.R_types HO698.out BK699.out (by decide)) (fun _ hk => hk.2) (.int .i64 a0_0)) (fun _ hk => hk.2) (.int .i64 a0_1)) (fun _ hk => hk.2) (.slice Ao18 y696.length co18)) (fun _ hk => trivial)⟩, ⟨bky BK690 NB690_699⟩, ⟨bky BK691 NB691_699⟩, ⟨by refine bkt ?_; refine blk_put (cs := #[.int .i64 a0_0, .int .i64 a0_1, .slice none 0 0]) ?_ 2 _ rfl; refine bkt ?_; refine blk_put (cs := #[.int .i64 a0_0, .int .i64 0, .slice none 0 0]) ?_ 1 _ rfl; refine bkt ?_; refine blk_put (cs := #[.int .i64 0, .int .i64 0, .slice none 0 0]) ?_ 0 _ rfl; refine bkt ?_; exact BK699.out⟩, ⟨hb3 HB GE690 GE691 GE699⟩⟩
   case round =>
    clear H'
    try clear p2
    try clear c4
    try clear c5
    try clear c8
    try clear hcz9_0
    try clear hcz9_1
    try clear hcz9_2
    try clear hfz9_0
    try clear hfz9_1
    try clear hfz9_2
    obtain ⟨x7_1, x700000_1, x700001_1, x700002_1, u700002, rfl, HA, HK1, HO_700002, BK690, BK691, BK699, HB⟩ := hrel
    cases gk with
    | zero => exact absurd HA.out (by simp [barscanref31_TurnImage.l0])
    | succ k1 =>
     have H := HA.out
     clear HA
     simp only [barscanref31_TurnImage.l0] at H
     replace H := Option.bind_eq_some_iff.mp H
     obtain ⟨t700, A220, H⟩ := H
     replace H : (if x7_1 < t700 then (barscanref31_TurnImage.l1 k1 a1 x7_1 0 a0_0 a0_1 l0_2 x700000_1 x700001_1 x700002_1 x700001_1 x700000_1 ([] : List Int)) else (some (x700000_1, x700001_1, x700002_1, 0))) = some (r1, r2, r3, r4) := H
     have A22 := Aside0.mk A220
     clear A220
     by_cases c23 : x7_1 < t700
     ·rw [if_pos c23] at H
      have c23b0 : decide (x7_1 < t700) = true := decide_eq_true c23
      clear c23
      have H' := Aside0.mk H
      clear H
      go_wp2_with (first | ((with_reducible refine gate_callee (f := 58) rfl ?_); refine goesL_ (some 25) rfl rfl Try.func58 (by kernel_rfl) rfl #[.int .i64 a1] rfl mapx ?_; (with_reducible refine (barscanref31_quarters.calls a1 t700 _ A22.out).mono ?_); rintro e w' ⟨rfl, ⟨nd, rfl⟩⟩; refine ⟨_, rfl, ?_⟩; (try (rw [drewN_self wr]; generalize hq_ : World.drewN wr _ = wr; have n0_ : Aside0 (Kd.R (Kd.int .u8) 5 wr w.heap.size (fun _ => True) u700002 x700002_1) := ⟨by rw [← hq_]; exact (rkx HO_700002)⟩; have n1_ : Aside0 (wr.heap[gb690]? = some (.cells #[.int .i64 a0_0, .int .i64 a0_1, .slice A0_2 l0_2.length c0_2] 58 (0, 0))) := ⟨by rw [← hq_]; exact (bkx BK690)⟩; have n2_ : Aside0 (wr.heap[gb691]? = some (.cells #[.int .i64 0, .int .i64 0, .slice none 0 0] 58 (0, 0))) := ⟨by rw [← hq_]; exact (bkx BK691)⟩; have n3_ : Aside0 (wr.heap[gb699]? = some (.cells #[.int .i64 x700000_1, .int .i64 x700001_1, u700002] 58 (0, 0))) := ⟨by rw [← hq_]; exact (bkx BK699)⟩; have n4_ : Aside0 (Below w.heap.size w wr) := ⟨by rw [← hq_]; exact (hb3 HB GE690 GE691 GE699)⟩; clear HO_700002 BK690 BK691 BK699 HB hq_; have HO_700002 := n0_; have BK690 := n1_; have BK691 := n2_; have BK699 := n3_; have HB := n4_; clear n0_ n1_ n2_ n3_ n4_)); have hnb24 := NB699_690.out; have hnc24 := NB690_699.out; have hnb25 := NB699_691.out; have hnc25 := NB691_699.out; have hcz26_0 : wr.cell? ⟨gb699, 0, none⟩ = some (.int .i64 x700000_1) := (blk_cell BK699.out 0).trans rfl; have hcz26_1 : wr.cell? ⟨gb699, 1, none⟩ = some (.int .i64 x700001_1) := (blk_cell BK699.out 1).trans rfl; have hcz26_2 : wr.cell? ⟨gb699, 2, none⟩ = some (u700002) := (blk_cell BK699.out 2).trans rfl; have hfz26_0 := blk_frozen BK699.out 0; have hfz26_1 := blk_frozen BK699.out 1; have hfz26_2 := blk_frozen BK699.out 2) | ((with_reducible refine gate_dst (N := 8) rfl ?_); refine box_event ?hg (N := 8) ?hd (cs := #[.int .i64 0, .int .i64 0, .slice none 0 0]) (t := 58) ?hr ?_; (case hd => rfl); (case hg => rfl); (case hr => first | (go_simp; done) | (go_simp; rfl)); intro gb701 hg w27 hbox hb; have n0_ := Aside0.mk (Kd.R_below (rkx HO_700002) hb); have n1_ := Aside0.mk (blk_below (bkx BK690) hb); have n2_ := Aside0.mk (blk_below (bkx BK691) hb); have n3_ := Aside0.mk (blk_below (bkx BK699) hb); have n4_ := Aside0.mk (below_step (hb3 HB GE690 GE691 GE699) hb); have n5_ := Aside0.mk (hbox); have n6_ := Aside0.mk ((by rw [hg]; exact (below_size (hb3 HB GE690 GE691 GE699)) : w.heap.size ≤ gb701)); have n7_ := Aside0.mk ((by rw [hg]; exact (below_size (hb3 HB GE690 GE691 GE699)) : w.heap.size ≤ gb701)); have n8_ := Aside0.mk (nel hg BK690 : gb690 ≠ gb701); have n9_ := Aside0.mk (neg hg BK690 : gb701 ≠ gb690); have n10_ := Aside0.mk (nel hg BK691 : gb691 ≠ gb701); have n11_ := Aside0.mk (neg hg BK691 : gb701 ≠ gb691); have n12_ := Aside0.mk (nel hg BK699 : gb699 ≠ gb701); have n13_ := Aside0.mk (neg hg BK699 : gb701 ≠ gb699); clear HO_700002; clear BK690; clear BK691; clear BK699; clear HB; have HO_700002 := n0_; have BK690 := n1_; have BK691 := n2_; have BK699 := n3_; have HB := n4_; have BK701 := n5_; have GW701 := n6_; have GE701 := n7_; have NB690_701 := n8_; have NB701_690 := n9_; have NB691_701 := n10_; have NB701_691 := n11_; have NB699_701 := n12_; have NB701_699 := n13_; clear n0_ n1_ n2_ n3_ n4_ n5_ n6_ n7_ n8_ n9_ n10_ n11_ n12_ n13_; clear hb hbox hg; have hnb28 := NB701_690.out; have hnc28 := NB690_701.out; have hnb29 := NB701_691.out; have hnc29 := NB691_701.out; have hnb30 := NB701_699.out; have hnc30 := NB699_701.out; have hcz31_0 : w27.cell? ⟨gb701, 0, none⟩ = some (.int .i64 0) := (blk_cell BK701.out 0).trans rfl; have hcz31_1 : w27.cell? ⟨gb701, 1, none⟩ = some (.int .i64 0) := (blk_cell BK701.out 1).trans rfl; have hcz31_2 : w27.cell? ⟨gb701, 2, none⟩ = some (.slice none 0 0) := (blk_cell BK701.out 2).trans rfl; have hfz31_0 := blk_frozen BK701.out 0; have hfz31_1 := blk_frozen BK701.out 1; have hfz31_2 := blk_frozen BK701.out 2))
      go_loopg [9] k1 (fun kq v9 w' => ∃ (x9_2 : Int) (x702002_2 : List Int) (u702002 : Value), v9 = .int .i64 x9_2 ∧ Aside0 (barscanref31_TurnImage.l1 kq a1 x7_1 x9_2 a0_0 a0_1 l0_2 x700000_1 x700001_1 x700002_1 x700001_1 x700000_1 x702002_2 = some (r1, r2, r3, r4)) ∧ Aside0 (kq ≤ k1) ∧ Aside0 (Kd.R (Kd.int .u8) 5 w' w.heap.size (fun k_ => some k_ ≠ (u702002 : Value).ownBlock) u700002 x700002_1) ∧ Aside0 (Kd.R (Kd.int .u8) 5 w' w.heap.size (fun k_ => some k_ ≠ (u700002 : Value).ownBlock) u702002 x702002_2) ∧ Aside0 (w'.heap[gb690]? = some (.cells #[.int .i64 a0_0, .int .i64 a0_1, (.slice A0_2 l0_2.length c0_2)] 58 (0, 0))) ∧ Aside0 (w'.heap[gb691]? = some (.cells #[.int .i64 0, .int .i64 0, (.slice none 0 0)] 58 (0, 0))) ∧ Aside0 (w'.heap[gb699]? = some (.cells #[.int .i64 x700000_1, .int .i64 x700001_1, u700002] 58 (0, 0))) ∧ Aside0 (w'.heap[gb701]? = some (.cells #[.int .i64 x700001_1, .int .i64 x700000_1, u702002] 58 (0, 0))) ∧ Aside0 (Below w.heap.size w w'))
      case atStart => exact ⟨(0), (([] : List Int)), (.slice none 0 0), (by first | rfl | (simp; done) | (simp [*]; done)), H', ⟨Nat.le_refl _⟩, ⟨by refine rkt ?_; exact Kd.R_mono (Kd.R_far (p := ⟨gb701, 2, none⟩) (Kd.R_far (p := ⟨gb701, 1, none⟩) (Kd.R_far (p := ⟨gb701, 0, none⟩) (Kd.R_types HO_700002.out BK701.out (by decide)) (fun _ hk => hk.2) (.int .i64 x700001_1)) (fun _ hk => hk.2) (.int .i64 x700000_1)) (fun _ hk => hk.2) (.slice none 0 0)) (fun _ hk => (by simp [Value.ownBlock]))⟩, ⟨by first | exact Kd.R_nil _ _ _ _ _ | exact Kd.N_nil _ _ _ _ _ | exact Kd.V_nil _ _ _ _ _ | exact Kd.Q_nil _ _ _ _ _ | exact Kd.S_nil _ _ _ _ _⟩, ⟨bky BK690 NB690_701⟩, ⟨bky BK691 NB691_701⟩, ⟨bky BK699 NB699_701⟩, ⟨by refine bkt ?_; refine blk_put (cs := #[.int .i64 x700001_1, .int .i64 x700000_1, .slice none 0 0]) ?_ 2 _ rfl; refine bkt ?_; refine blk_put (cs := #[.int .i64 x700001_1, .int .i64 0, .slice none 0 0]) ?_ 1 _ rfl; refine bkt ?_; refine blk_put (cs := #[.int .i64 0, .int .i64 0, .slice none 0 0]) ?_ 0 _ rfl; refine bkt ?_; exact BK701.out⟩, ⟨hb4 HB GE690 GE691 GE699 GE701⟩⟩
      case round =>
       clear H'
       try clear c2
       try clear p2
       try clear c3
       try clear c4
       try clear c5
       try clear c8
       try clear c23
       try clear c23b0
       try clear c24
       try clear c25
       try clear c28
       try clear c29
       try clear c30
       try clear hcz26_0
       try clear hcz26_1
       try clear hcz26_2
       try clear hcz31_0
       try clear hcz31_1
       try clear hcz31_2
       try clear hcz9_0
       try clear hcz9_1
       try clear hcz9_2
       try clear hfz26_0
       try clear hfz26_1
       try clear hfz26_2
       try clear hfz31_0
       try clear hfz31_1
       try clear hfz31_2
       try clear hfz9_0
       try clear hfz9_1
       try clear hfz9_2
       try clear p2
       obtain ⟨x9_2, x702002_2, u702002, rfl, HA, HK2, HO_700002, HO_702002, BK690, BK691, BK699, BK701, HB⟩ := hrel
       cases gk with
       | zero => exact absurd HA.out (by simp [barscanref31_TurnImage.l1])
       | succ k2 =>
        have H := HA.out
        clear HA
        simp only [barscanref31_TurnImage.l1] at H
        by_cases c32 : x9_2 < (l0_2.length : Int)
        ·rw [if_pos c32] at H
         have c32b0 : decide (x9_2 < (l0_2.length : Int)) = true := decide_eq_true c32
         clear c32
         replace H := Option.bind_eq_some_iff.mp H
         obtain ⟨t702, A330, H⟩ := H
         replace H : (if 0 ≤ t702 then (if t702 < (x700002_1.length : Int) then (if x702002_2.length < 140737488355328 then (barscanref31_TurnImage.l1 k2 a1 x7_1 (wrap64 (x9_2 + 1)) a0_0 a0_1 l0_2 x700000_1 x700001_1 x700002_1 x700001_1 x700000_1 (x702002_2 ++ [rd x700002_1 t702])) else (none)) else (none)) else (none)) = some (r1, r2, r3, r4) := H
         have A33 := Aside0.mk A330
         clear A330
         by_cases c34 : 0 ≤ t702
         ·rw [if_pos c34] at H
          have c34b0 : decide (0 ≤ t702) = true := decide_eq_true c34
          clear c34
          by_cases c35 : t702 < (x700002_1.length : Int)
          ·rw [if_pos c35] at H
           have c35b0 : decide (t702 < (x700002_1.length : Int)) = true := decide_eq_true c35
           clear c35
           by_cases c36 : x702002_2.length < 140737488355328
           ·rw [if_pos c36] at H
            have LMc36 := Aside0.mk c36
            clear c36
            obtain ⟨y704, hy704⟩ : ∃ y_ : List Int, y_ = (x702002_2 ++ [rd x700002_1 t702]) := ⟨_, rfl⟩
            replace H : (barscanref31_TurnImage.l1 k2 a1 x7_1 (wrap64 (x9_2 + 1)) a0_0 a0_1 l0_2 x700000_1 x700001_1 x700002_1 x700001_1 x700000_1 y704) = some (r1, r2, r3, r4) := by first | (rw [hy704]; with_reducible exact H) | (have H2_ := (Option.bind_some _ _).symm.trans H; rw [hy704]; with_reducible exact H2_) | (have H2_ := (Option.bind_some _ _).symm.trans H; with_reducible exact H2_) | with_reducible exact H | (rw [hy704]; exact H) | exact H
            have Ny704 := Aside0.mk hy704
            clear hy704
            have H' := Aside0.mk H
            clear H
            have hnb37 := NB690_691.out
            have hnc37 := NB691_690.out
            have hnb38 := NB690_699.out
            have hnc38 := NB699_690.out
            have hnb39 := NB690_701.out
            have hnc39 := NB701_690.out
            have hcz40_0 : wr.cell? ⟨gb690, 0, none⟩ = some (.int .i64 a0_0) := (blk_cell BK690.out 0).trans rfl
            have hcz40_1 : wr.cell? ⟨gb690, 1, none⟩ = some (.int .i64 a0_1) := (blk_cell BK690.out 1).trans rfl
            have hcz40_2 : wr.cell? ⟨gb690, 2, none⟩ = some (.slice A0_2 l0_2.length c0_2) := (blk_cell BK690.out 2).trans rfl
            have hfz40_0 := blk_frozen BK690.out 0
            have hfz40_1 := blk_frozen BK690.out 1
            have hfz40_2 := blk_frozen BK690.out 2
            try go_wp2
            have n0_ := Aside0.mk (Kd.R_drew HO_700002.out)
            have n1_ := Aside0.mk (Kd.R_drew HO_702002.out)
            have n2_ := Aside0.mk (blk_drew BK690.out)
            have n3_ := Aside0.mk (blk_drew BK691.out)
            have n4_ := Aside0.mk (blk_drew BK699.out)
            have n5_ := Aside0.mk (blk_drew BK701.out)
            have n6_ := Aside0.mk (below_drew1 HB.out)
            clear HO_700002
            clear HO_702002
            clear BK690
            clear BK691
            clear BK699
            clear BK701
            clear HB
            have HO_700002 := n0_
            have HO_702002 := n1_
            have BK690 := n2_
            have BK691 := n3_
            have BK699 := n4_
            have BK701 := n5_
            have HB := n6_
            clear n0_ n1_ n2_ n3_ n4_ n5_ n6_
            obtain ⟨Ao42, co42, eo42⟩ := Kd.R_slice HO_700002.out
            (first | subst eo42 | (injection eo42 with f1_ f2_ f3_; have f4_ := f1_.symm; have f5_ := f3_.symm; clear f1_ f2_ f3_; subst f4_; subst f5_))
            have p703 : 0 ≤ (t702 : Int) := of_decide_eq_true (by first | (with_reducible assumption) | assumption)
            have q703 : t702 < (x700002_1.length : Int) := of_decide_eq_true (by first | (with_reducible assumption) | assumption)
            obtain ⟨ad703, e703, hx703_0⟩ := Kd.at_int (Kd.R_reads' HO_700002.out).2.2 t702 p703 q703
            cases e703
            replace p703 := eq_true p703
            replace q703 := eq_true q703
            refine start_ (n := 16) (S := fun w' => w'.cell? ⟨gb701, 0, none⟩ = some (.int .i64 x700001_1) ∧ w'.cell? ⟨gb701, 1, none⟩ = some (.int .i64 x700000_1) ∧ w'.cell? ⟨gb701, 2, none⟩ = some (u702002) ∧ w'.cell? ⟨gb699, 0, none⟩ = some (.int .i64 x700000_1) ∧ w'.cell? ⟨gb699, 1, none⟩ = some (.int .i64 x700001_1) ∧ w'.cell? ⟨gb699, 2, none⟩ = some (.slice (some ad703) x700002_1.length co42) ∧ w'.cell? (ad703.add (t702).toNat) = some (.int .u8 (rd x700002_1 t702))) (ds := [13, 15]) #[false, false, false, false, false, false, false, false, false, false, false, false, false, false, false, false] (by kernel_rfl) rfl rfl ⟨(blk_cell BK701.out 0).trans rfl, (blk_cell BK701.out 1).trans rfl, (blk_cell BK701.out 2).trans rfl, (blk_cell BK699.out 0).trans rfl, (blk_cell BK699.out 1).trans rfl, (blk_cell BK699.out 2).trans rfl, hx703_0⟩ (fun hHeld => ?_); refine with_tabW barscanref31_TurnImage.tab11 barscanref31_TurnImage.bits11 (fun HT_ HW_ => ?_)
            generalize wr.drew = w41 at HO_700002 HO_702002 BK690 BK691 BK699 BK701 HB hx703_0 hHeld ⊢
            refine pure_ (i := 0) (N := some 41) (v := ?_) (a' := ?_) #[true, false, false, false, false, false, false, false, false, false, false, false, false, false, false, false] rfl rfl (any_of HT_.out (by kernel_rfl)) (fun _ _ _ h => h) (Or.inl ⟨by rfl, ?_⟩) ?_ ?_
            rotate_left
            ·intro w'
             go_simp
             with_reducible rfl
            rotate_left
            ·simp only [Act.put, List.setIfInBounds_toArray, List.set_cons_zero, List.set_cons_succ, i64_w, i32_w]
             rfl
            refine pure_ (i := 2) (N := some 43) (v := ?_) (a' := ?_) #[true, false, true, false, false, false, false, false, false, false, false, false, false, false, false, false] rfl rfl (any_of HT_.out (by kernel_rfl)) (fun _ _ _ h => h) (Or.inl ⟨by rfl, ?_⟩) ?_ ?_
            rotate_left
            ·intro w'
             go_simp
             with_reducible rfl
            rotate_left
            ·simp only [Act.put, List.setIfInBounds_toArray, List.set_cons_zero, List.set_cons_succ, i64_w, i32_w]
             rfl
            refine pure_ (i := 4) (N := some 45) (v := ?_) (a' := ?_) #[true, false, true, false, true, false, false, false, false, false, false, false, false, false, false, false] rfl rfl (any_of HT_.out (by kernel_rfl)) (fun _ _ _ h => h) (Or.inl ⟨by rfl, ?_⟩) ?_ ?_
            rotate_left
            ·intro w'
             go_simp
             with_reducible rfl
            rotate_left
            ·simp only [Act.put, List.setIfInBounds_toArray, List.set_cons_zero, List.set_cons_succ, i64_w, i32_w]
             rfl
            refine pure_ (i := 6) (N := some 47) (v := ?_) (a' := ?_) #[true, false, true, false, true, false, true, false, false, false, false, false, false, false, false, false] rfl rfl (any_of HT_.out (by kernel_rfl)) (fun _ _ _ h => h) (Or.inl ⟨by rfl, ?_⟩) ?_ ?_
            rotate_left
            ·intro w'
             go_simp
             with_reducible rfl
            rotate_left
            ·simp only [Act.put, List.setIfInBounds_toArray, List.set_cons_zero, List.set_cons_succ, i64_w, i32_w]
             rfl
            refine pure_ (i := 8) (N := some 49) (v := ?_) (a' := ?_) #[true, false, true, false, true, false, true, false, true, false, false, false, false, false, false, false] rfl rfl (any_of HT_.out (by kernel_rfl)) (fun _ _ _ h => h) (Or.inl ⟨by rfl, ?_⟩) ?_ ?_
            rotate_left
            ·intro w'
             go_simp
             with_reducible rfl
            rotate_left
            ·simp only [Act.put, List.setIfInBounds_toArray, List.set_cons_zero, List.set_cons_succ, i64_w, i32_w]
             rfl
            refine take_ (i := 1) (N := some 42) (v := ?_) (a' := ?_) #[true, true, true, false, true, false, true, false, true, false, false, false, false, false, false, false] rfl rfl (take_ofW HT_.out HW_.out (by kernel_rfl)) (fun _ _ _ h => h) (Or.inl ⟨by rfl, ?_⟩) hHeld ?_ ?_
            rotate_left
            ·rintro w' ⟨s0, s1, s2, s3, s4, s5, s6⟩
             go_simp
             with_reducible rfl
            rotate_left
            ·simp only [Act.put, List.setIfInBounds_toArray, List.set_cons_zero, List.set_cons_succ, i64_w, i32_w]
             rfl
            refine take_ (i := 3) (N := some 44) (v := ?_) (a' := ?_) #[true, true, true, true, true, false, true, false, true, false, false, false, false, false, false, false] rfl rfl (take_ofW HT_.out HW_.out (by kernel_rfl)) (fun _ _ _ h => h) (Or.inl ⟨by rfl, ?_⟩) hHeld ?_ ?_
            rotate_left
            ·rintro w' ⟨s0, s1, s2, s3, s4, s5, s6⟩
             go_simp
             with_reducible rfl
            rotate_left
            ·simp only [Act.put, List.setIfInBounds_toArray, List.set_cons_zero, List.set_cons_succ, i64_w, i32_w]
             rfl
            refine take_ (i := 5) (N := some 46) (v := ?_) (a' := ?_) #[true, true, true, true, true, true, true, false, true, false, false, false, false, false, false, false] rfl rfl (take_ofW HT_.out HW_.out (by kernel_rfl)) (fun _ _ _ h => h) (Or.inl ⟨by rfl, ?_⟩) hHeld ?_ ?_
            rotate_left
            ·rintro w' ⟨s0, s1, s2, s3, s4, s5, s6⟩
             go_simp
             with_reducible rfl
            rotate_left
            ·simp only [Act.put, List.setIfInBounds_toArray, List.set_cons_zero, List.set_cons_succ, i64_w, i32_w]
             rfl
            refine take_ (i := 7) (N := some 48) (v := ?_) (a' := ?_) #[true, true, true, true, true, true, true, true, true, false, false, false, false, false, false, false] rfl rfl (take_ofW HT_.out HW_.out (by kernel_rfl)) (fun _ _ _ h => h) (Or.inl ⟨by rfl, ?_⟩) hHeld ?_ ?_
            rotate_left
            ·rintro w' ⟨s0, s1, s2, s3, s4, s5, s6⟩
             go_simp
             with_reducible rfl
            rotate_left
            ·simp only [Act.put, List.setIfInBounds_toArray, List.set_cons_zero, List.set_cons_succ, i64_w, i32_w]
             rfl
            refine one_ (i := 9) (N := some 50) #[true, true, true, true, true, true, true, true, true, true, false, false, false, false, false, false] rfl rfl (one_of HT_.out (by kernel_rfl)) (by decide) (fun K hK => ?_)
            refine goes_ Try.func59 (by kernel_rfl) rfl #[.int .i64 x700000_1, .int .i64 x700001_1, .int .i64 x9_2] (by rfl) rfl rfl mapx ?_
            with_reducible refine (barscanref31_turned.calls x700000_1 x700001_1 x9_2 t702 _ A33.out).mono ?_
            rintro e w' ⟨rfl, ⟨nd, rfl⟩⟩
            refine ⟨_, rfl, ?_⟩
            refine hK.out _ _ ⟨(blk_cell BK701.out 0).trans rfl, (blk_cell BK701.out 1).trans rfl, (blk_cell BK701.out 2).trans rfl, (blk_cell BK699.out 0).trans rfl, (blk_cell BK699.out 1).trans rfl, (blk_cell BK699.out 2).trans rfl, hHeld.2.2.2.2.2.2⟩ (fun hHeld => ?_)
            clear hK K
            refine norm_ (a' := ?_) ?_ ?_
            rotate_left
            ·show Act.put _ (some 50) _ = _
             simp only [Act.put, List.setIfInBounds_toArray, List.set_cons_zero, List.set_cons_succ, i64_w, i32_w]
             rfl
            refine pure_ (i := 10) (N := some 51) (v := ?_) (a' := ?_) #[true, true, true, true, true, true, true, true, true, true, true, false, false, false, false, false] rfl rfl (any_of HT_.out (by kernel_rfl)) (fun _ _ _ h => h) (Or.inl ⟨by rfl, ?_⟩) ?_ ?_
            rotate_left
            ·intro w'
             go_simp
             with_reducible rfl
            rotate_left
            ·simp only [Act.put, List.setIfInBounds_toArray, List.set_cons_zero, List.set_cons_succ, i64_w, i32_w]
             rfl
            refine take_ (i := 11) (N := some 52) (v := ?_) (a' := ?_) #[true, true, true, true, true, true, true, true, true, true, true, true, false, false, false, false] rfl rfl (take_ofW HT_.out HW_.out (by kernel_rfl)) (fun _ _ _ h => h) (Or.inl ⟨by rfl, ?_⟩) hHeld ?_ ?_
            rotate_left
            ·rintro w' ⟨s0, s1, s2, s3, s4, s5, s6⟩
             go_simp
             with_reducible rfl
            rotate_left
            ·simp only [Act.put, List.setIfInBounds_toArray, List.set_cons_zero, List.set_cons_succ, i64_w, i32_w]
             rfl
            refine one_ (i := 12) (N := some 53) #[true, true, true, true, true, true, true, true, true, true, true, true, true, false, false, false] rfl rfl (one_of HT_.out (by kernel_rfl)) (by decide) (fun K hK => ?_)
            refine value_ (w1 := ?_) (v := ?_) (by rfl) rfl ?_ ?_
            rotate_left 2
            ·go_simp
             constructor
             ·rfl
             ·rfl
            refine hK.out _ _ ⟨(blk_cell (blk_alloc BK701.out _) 0).trans rfl, (blk_cell (blk_alloc BK701.out _) 1).trans rfl, (blk_cell (blk_alloc BK701.out _) 2).trans rfl, (blk_cell (blk_alloc BK699.out _) 0).trans rfl, (blk_cell (blk_alloc BK699.out _) 1).trans rfl, (blk_cell (blk_alloc BK699.out _) 2).trans rfl, (World.cell?_alloc_lt _ _ _ (World.block_lt_of_cell? _ _ (hHeld.2.2.2.2.2.2))).trans (hHeld.2.2.2.2.2.2)⟩ (fun hHeld => ?_)
            clear hK K
            refine norm_ (a' := ?_) ?_ ?_
            rotate_left
            ·show Act.put _ (some 53) _ = _
             simp only [Act.put, List.setIfInBounds_toArray, List.set_cons_zero, List.set_cons_succ, i64_w, i32_w]
             rfl
            refine last_ (i := 13) (N := some 54) #[true, true, true, true, true, true, true, true, true, true, true, true, true, true, false, false] rfl rfl (one_of HT_.out (by kernel_rfl)) (by decide) (fun K hK => ?_)
            refine Kd.R_append_step (Kd.int .u8) (w0 := w) w.heap.size (by rfl) (.tmp 42) (.tmp 53) 56 5 (.int .u8 0) 1 rfl Try.underlying56 info5 rfl (by decide) (by omega) u702002 x702002_2 (rd x700002_1 t702) [.int .u8 (rd x700002_1 t702)] (fun k_ => some k_ ≠ (.slice (some ad703) x700002_1.length co42 : Value).ownBlock) (fun _ => False) rfl rfl ?aP (fun _ hk => hk.elim) ?aF ?aO ?aB ?aS ?aL ?_
            (case aP => exact rfl)
            (case aB => exact (hb4 HB GE690 GE691 GE699 GE701))
            (case aF => exact (fun k_ hk => Kd.fresh' (Kd.R_lt (rkx HO_700002)) k_ hk))
            (case aO => exact (rkx HO_702002))
            (case aS => exact (below_size (hb4 HB GE690 GE691 GE699 GE701)))
            (case aL => have := LMc36.out; omega)
            intro v705 w43 ho hb hg hat
            rw [← Ny704.out] at ho
            have n0_ := Aside0.mk (Kd.R_after (ok := (fun _ => True)) (by refine rkt ?_; exact Kd.R_mono HO_700002.out (fun _ hk => ⟨trivial, hk⟩)) hg hat)
            have n1_ := Aside0.mk (blk_grown (g := gb690) (o := .cells #[.int .i64 a0_0, .int .i64 a0_1, .slice A0_2 l0_2.length c0_2] 58 (0, 0)) (bkx BK690) hg (Kd.R_ne HO_702002.out BK690.out (by decide)))
            have n2_ := Aside0.mk (blk_grown (g := gb691) (o := .cells #[.int .i64 0, .int .i64 0, .slice none 0 0] 58 (0, 0)) (bkx BK691) hg (Kd.R_ne HO_702002.out BK691.out (by decide)))
            have n3_ := Aside0.mk (blk_grown (g := gb699) (o := .cells #[.int .i64 x700000_1, .int .i64 x700001_1, .slice (some ad703) x700002_1.length co42] 58 (0, 0)) (bkx BK699) hg (Kd.R_ne HO_702002.out BK699.out (by decide)))
            have n4_ := Aside0.mk (blk_grown (g := gb701) (o := .cells #[.int .i64 x700001_1, .int .i64 x700000_1, u702002] 58 (0, 0)) (bkx BK701) hg (Kd.R_ne HO_702002.out BK701.out (by decide)))
            have n5_ := Aside0.mk (hb)
            have n6_ := Aside0.mk (ho)
            clear HO_700002
            clear BK690
            clear BK691
            clear BK699
            clear BK701
            clear HB
            clear HO_702002
            have HO_700002 := n0_
            have BK690 := n1_
            have BK691 := n2_
            have BK699 := n3_
            have BK701 := n4_
            have HB := n5_
            have HO706 := n6_
            clear n0_ n1_ n2_ n3_ n4_ n5_ n6_
            clear ho hb hg hat
            obtain ⟨Ao44, co44, eo44⟩ := Kd.R_slice HO706.out
            (first | subst eo44 | (injection eo44 with f1_ f2_ f3_; have f4_ := f1_.symm; have f5_ := f3_.symm; clear f1_ f2_ f3_; subst f4_; subst f5_))
            refine hK.out _ _ ?_
            clear hK K
            refine norm_ (a' := ?_) ?_ ?_
            rotate_left
            ·show Act.put _ (some 54) _ = _
             simp only [Act.put, List.setIfInBounds_toArray, List.set_cons_zero, List.set_cons_succ, i64_w, i32_w]
             rfl
            refine pure_ (i := 14) (N := some 55) (v := ?_) (a' := ?_) #[true, true, true, true, true, true, true, true, true, true, true, true, true, true, true, false] rfl rfl (any_of HT_.out (by kernel_rfl)) (fun _ _ _ h => h) (Or.inl ⟨by rfl, ?_⟩) ?_ ?_
            rotate_left
            ·intro w'
             go_simp
             with_reducible rfl
            rotate_left
            ·simp only [Act.put, List.setIfInBounds_toArray, List.set_cons_zero, List.set_cons_succ, i64_w, i32_w]
             rfl
            refine last_ (i := 15) (N := none) #[true, true, true, true, true, true, true, true, true, true, true, true, true, true, true, true] rfl rfl (one_of HT_.out (by kernel_rfl)) (by decide) (fun K hK => ?_)
            have hs45 : w43.cell? ⟨gb701, 2, none⟩ = some (u702002) := (blk_cell BK701.out 2).trans rfl
            have hfs45 := blk_frozen BK701.out 2
            have hns45_0 := NB690_701.out
            have hns45_1 := NB691_701.out
            have hns45_2 := NB699_701.out
            have hms45_0 := NB701_690.out
            have hms45_1 := NB701_691.out
            have hms45_2 := NB701_699.out
            refine skip_ (w1 := ?_) (by rfl) rfl ?_ ?_
            rotate_left
            ·go_simp
             rfl
            refine hK.out _ _ ?_
            clear hK K
            refine done_ (done_of HT_.out (by kernel_rfl)) ?_
            try go_wp2
            go_roundg k2
            case measure => have := HK1.out; have := HK2.out; omega
            case rel => exact ⟨(wrap64 (x9_2 + 1)), (y704), (.slice Ao44 y704.length co44), (by first | rfl | (simp; done) | (simp [*]; done)), H', ⟨by have := HK1.out; have := HK2.out; omega⟩, ⟨by refine rkt ?_; exact Kd.R_mono (Kd.R_far (p := ⟨gb701, 2, none⟩) (Kd.R_types HO_700002.out BK701.out (by decide)) (fun _ hk => hk.2) (.slice Ao44 y704.length co44)) (fun _ hk => hk.1.2)⟩, ⟨by refine rkt ?_; exact Kd.R_mono (Kd.R_far (p := ⟨gb701, 2, none⟩) (Kd.R_types HO706.out BK701.out (by decide)) (fun _ hk => hk.2) (.slice Ao44 y704.length co44)) (fun _ hk => hk.1)⟩, ⟨bky BK690 NB690_701⟩, ⟨bky BK691 NB691_701⟩, ⟨bky BK699 NB699_701⟩, ⟨by refine bkt ?_; refine blk_put (cs := #[.int .i64 x700001_1, .int .i64 x700000_1, u702002]) ?_ 2 _ rfl; refine bkt ?_; exact BK701.out⟩, ⟨hb4 HB GE690 GE691 GE699 GE701⟩⟩
           ·rw [if_neg c36] at H
            exact absurd H (by simp)
          ·rw [if_neg c35] at H
           exact absurd H (by simp)
         ·rw [if_neg c34] at H
          exact absurd H (by simp)
        ·rw [if_neg c32] at H
         have c32b0 : decide (x9_2 < (l0_2.length : Int)) = false := decide_eq_false c32
         clear c32
         have H' := Aside0.mk H
         clear H
         have hnb46 := NB690_691.out
         have hnc46 := NB691_690.out
         have hnb47 := NB690_699.out
         have hnc47 := NB699_690.out
         have hnb48 := NB690_701.out
         have hnc48 := NB701_690.out
         have hcz49_0 : wr.cell? ⟨gb690, 0, none⟩ = some (.int .i64 a0_0) := (blk_cell BK690.out 0).trans rfl
         have hcz49_1 : wr.cell? ⟨gb690, 1, none⟩ = some (.int .i64 a0_1) := (blk_cell BK690.out 1).trans rfl
         have hcz49_2 : wr.cell? ⟨gb690, 2, none⟩ = some (.slice A0_2 l0_2.length c0_2) := (blk_cell BK690.out 2).trans rfl
         have hfz49_0 := blk_frozen BK690.out 0
         have hfz49_1 := blk_frozen BK690.out 1
         have hfz49_2 := blk_frozen BK690.out 2
         have hnb50 := NB701_691.out
         have hnc50 := NB691_701.out
         have hnb51 := NB701_699.out
         have hnc51 := NB699_701.out
         have hcz52_0 : wr.cell? ⟨gb701, 0, none⟩ = some (.int .i64 x700001_1) := (blk_cell BK701.out 0).trans rfl
         have hcz52_1 : wr.cell? ⟨gb701, 1, none⟩ = some (.int .i64 x700000_1) := (blk_cell BK701.out 1).trans rfl
         have hcz52_2 : wr.cell? ⟨gb701, 2, none⟩ = some (u702002) := (blk_cell BK701.out 2).trans rfl
         have hfz52_0 := blk_frozen BK701.out 0
         have hfz52_1 := blk_frozen BK701.out 1
         have hfz52_2 := blk_frozen BK701.out 2
         have hnb53 := NB699_691.out
         have hnc53 := NB691_699.out
         have hcz54_0 : wr.cell? ⟨gb699, 0, none⟩ = some (.int .i64 x700000_1) := (blk_cell BK699.out 0).trans rfl
         have hcz54_1 : wr.cell? ⟨gb699, 1, none⟩ = some (.int .i64 x700001_1) := (blk_cell BK699.out 1).trans rfl
         have hcz54_2 : wr.cell? ⟨gb699, 2, none⟩ = some (u700002) := (blk_cell BK699.out 2).trans rfl
         have hfz54_0 := blk_frozen BK699.out 0
         have hfz54_1 := blk_frozen BK699.out 1
         have hfz54_2 := blk_frozen BK699.out 2
         obtain ⟨Ao55, co55, eo55⟩ := Kd.R_slice HO_702002.out
         subst eo55
         go_wp2
         go_roundg k2
         case measure => have := HK1.out; have := HK2.out; omega
         case rel => exact ⟨(wrap64 (x7_1 + 1)), (x700001_1), (x700000_1), (x702002_2), (.slice Ao55 x702002_2.length co55), (by first | rfl | (simp; done) | (simp [*]; done)), H', ⟨by have := HK1.out; have := HK2.out; omega⟩, ⟨by refine rkt ?_; exact Kd.R_mono (Kd.R_far (p := ⟨gb699, 2, none⟩) (Kd.R_far (p := ⟨gb699, 1, none⟩) (Kd.R_far (p := ⟨gb699, 0, none⟩) (Kd.R_types HO_702002.out BK699.out (by decide)) (fun _ hk => hk.2) (.int .i64 x700001_1)) (fun _ hk => hk.2) (.int .i64 x700000_1)) (fun _ hk => hk.2) (.slice Ao55 x702002_2.length co55)) (fun _ hk => trivial)⟩, ⟨bky BK690 NB690_699⟩, ⟨bky BK691 NB691_699⟩, ⟨by refine bkt ?_; refine blk_put (cs := #[.int .i64 x700001_1, .int .i64 x700000_1, u700002]) ?_ 2 _ rfl; refine bkt ?_; refine blk_put (cs := #[.int .i64 x700001_1, .int .i64 x700001_1, u700002]) ?_ 1 _ rfl; refine bkt ?_; refine blk_put (cs := #[.int .i64 x700000_1, .int .i64 x700001_1, u700002]) ?_ 0 _ rfl; refine bkt ?_; exact BK699.out⟩, ⟨hb4 HB GE690 GE691 GE699 GE701⟩⟩
     ·rw [if_neg c23] at H
      have c23b0 : decide (x7_1 < t700) = false := decide_eq_false c23
      clear c23
      simp only [Option.some.injEq, Prod.mk.injEq] at H
      obtain ⟨rfl, rfl, rfl, rfl⟩ := H
      go_wp2_with (first | ((with_reducible refine gate_callee (f := 58) rfl ?_); refine goesL_ (some 25) rfl rfl Try.func58 (by kernel_rfl) rfl #[.int .i64 a1] rfl mapx ?_; (with_reducible refine (barscanref31_quarters.calls a1 t700 _ A22.out).mono ?_); rintro e w' ⟨rfl, ⟨nd, rfl⟩⟩; refine ⟨_, rfl, ?_⟩; (try (rw [drewN_self wr]; generalize hq_ : World.drewN wr _ = wr; have n0_ : Aside0 (Kd.R (Kd.int .u8) 5 wr w.heap.size (fun _ => True) u700002 x700002_1) := ⟨by rw [← hq_]; exact (rkx HO_700002)⟩; have n1_ : Aside0 (wr.heap[gb690]? = some (.cells #[.int .i64 a0_0, .int .i64 a0_1, .slice A0_2 l0_2.length c0_2] 58 (0, 0))) := ⟨by rw [← hq_]; exact (bkx BK690)⟩; have n2_ : Aside0 (wr.heap[gb691]? = some (.cells #[.int .i64 0, .int .i64 0, .slice none 0 0] 58 (0, 0))) := ⟨by rw [← hq_]; exact (bkx BK691)⟩; have n3_ : Aside0 (wr.heap[gb699]? = some (.cells #[.int .i64 x700000_1, .int .i64 x700001_1, u700002] 58 (0, 0))) := ⟨by rw [← hq_]; exact (bkx BK699)⟩; have n4_ : Aside0 (Below w.heap.size w wr) := ⟨by rw [← hq_]; exact (hb3 HB GE690 GE691 GE699)⟩; clear HO_700002 BK690 BK691 BK699 HB hq_; have HO_700002 := n0_; have BK690 := n1_; have BK691 := n2_; have BK699 := n3_; have HB := n4_; clear n0_ n1_ n2_ n3_ n4_)); have hnb56 := NB699_690.out; have hnc56 := NB690_699.out; have hnb57 := NB699_691.out; have hnc57 := NB691_699.out; have hcz58_0 : wr.cell? ⟨gb699, 0, none⟩ = some (.int .i64 x700000_1) := (blk_cell BK699.out 0).trans rfl; have hcz58_1 : wr.cell? ⟨gb699, 1, none⟩ = some (.int .i64 x700001_1) := (blk_cell BK699.out 1).trans rfl; have hcz58_2 : wr.cell? ⟨gb699, 2, none⟩ = some (u700002) := (blk_cell BK699.out 2).trans rfl; have hfz58_0 := blk_frozen BK699.out 0; have hfz58_1 := blk_frozen BK699.out 1; have hfz58_2 := blk_frozen BK699.out 2; have hnb59 := NB691_690.out; have hnc59 := NB690_691.out; have hcz60_0 : wr.cell? ⟨gb691, 0, none⟩ = some (.int .i64 0) := (blk_cell BK691.out 0).trans rfl; have hcz60_1 : wr.cell? ⟨gb691, 1, none⟩ = some (.int .i64 0) := (blk_cell BK691.out 1).trans rfl; have hcz60_2 : wr.cell? ⟨gb691, 2, none⟩ = some (.slice none 0 0) := (blk_cell BK691.out 2).trans rfl; have hfz60_0 := blk_frozen BK691.out 0; have hfz60_1 := blk_frozen BK691.out 1; have hfz60_2 := blk_frozen BK691.out 2; obtain ⟨Ao61, co61, eo61⟩ := Kd.R_slice HO_700002.out; subst eo61))
      refine bodyPost_ret (results_ct rfl _ _ gb691 58 #[.int .i64 x700000_1, .int .i64 x700001_1, .slice Ao61 x700002_1.length co61] (0, 0) _ rfl (by refine bkt ?_; refine blk_put (cs := #[.int .i64 x700000_1, .int .i64 x700001_1, .slice none 0 0]) ?_ 2 _ rfl; refine bkt ?_; refine blk_put (cs := #[.int .i64 x700000_1, .int .i64 0, .slice none 0 0]) ?_ 1 _ rfl; refine bkt ?_; refine blk_put (cs := #[.int .i64 0, .int .i64 0, .slice none 0 0]) ?_ 0 _ rfl; refine bkt ?_; exact BK691.out) Try.underlying58 rfl (by kernel_rfl)) rfl ?_
      exact ⟨_, by first | rfl | (simp [errW_none, errW_some] <;> rfl) | (simp [*, errW_none, errW_some] <;> rfl), by refine rkt ?_; exact Kd.R_mono (Kd.R_far (p := ⟨gb691, 2, none⟩) (Kd.R_far (p := ⟨gb691, 1, none⟩) (Kd.R_far (p := ⟨gb691, 0, none⟩) (Kd.R_types HO_700002.out BK691.out (by decide)) (fun _ hk => hk.2) (.int .i64 x700000_1)) (fun _ hk => hk.2) (.int .i64 x700001_1)) (fun _ hk => hk.2) (.slice Ao61 x700002_1.length co61)) (fun _ hk => trivial), by repeat (first | (with_reducible first | exact HB.out | apply below_alloc | apply pw_below_drewN | apply below_drew1 | refine below_set ?_ GE690.out | refine below_set ?_ GE691.out | refine below_set ?_ GE699.out) | exact HB.out)⟩
  ·rw [if_neg c5] at H
   exact absurd H (by simp)
 ·replace c4 := Bool.eq_false_iff.mpr c4
  subst c4
  have H1 : (some (0, 0, ([] : List Int), 1)) = some (r1, r2, r3, r4) := by rw [if_neg (show ¬ (false = true) by decide)] at H; exact H
  clear H
  have H := H1
  clear H1
  simp only [Option.some.injEq, Prod.mk.injEq] at H
  obtain ⟨rfl, rfl, rfl, rfl⟩ := H
  go_enter Try.func41, Try.ntmps41
  go_wp2_with (first | ((with_reducible refine gate_dst (N := 2) rfl ?_); refine box_event ?hg (N := 2) ?hd (cs := #[.int .i64 a0_0, .int .i64 a0_1, .slice A0_2 l0_2.length c0_2]) (t := 58) ?hr ?_; (case hd => rfl); (case hg => rfl); (case hr => first | (go_simp; done) | (go_simp; rfl)); intro gb690 hg w62 hbox hb; have n0_ := Aside0.mk (below_step (hb0 HB) hb); have n1_ := Aside0.mk (hbox); have n2_ := Aside0.mk ((by rw [hg]; exact (below_size (hb0 HB)) : w.heap.size ≤ gb690)); have n3_ := Aside0.mk ((by rw [hg]; exact (below_size (hb0 HB)) : w.heap.size ≤ gb690)); clear HB; have HB := n0_; have BK690 := n1_; have GW690 := n2_; have GE690 := n3_; clear n0_ n1_ n2_ n3_; clear hb hbox hg) | ((with_reducible refine gate_dst (N := 4) rfl ?_); refine box_event ?hg (N := 4) ?hd (cs := #[.int .i64 0, .int .i64 0, .slice none 0 0]) (t := 58) ?hr ?_; (case hd => rfl); (case hg => rfl); (case hr => first | (go_simp; done) | (go_simp; rfl)); intro gb691 hg w63 hbox hb; have n0_ := Aside0.mk (blk_below (bkx BK690) hb); have n1_ := Aside0.mk (below_step (hb1 HB GE690) hb); have n2_ := Aside0.mk (hbox); have n3_ := Aside0.mk ((by rw [hg]; exact (below_size (hb1 HB GE690)) : w.heap.size ≤ gb691)); have n4_ := Aside0.mk ((by rw [hg]; exact (below_size (hb1 HB GE690)) : w.heap.size ≤ gb691)); have n5_ := Aside0.mk (nel hg BK690 : gb690 ≠ gb691); have n6_ := Aside0.mk (neg hg BK690 : gb691 ≠ gb690); clear BK690; clear HB; have BK690 := n0_; have HB := n1_; have BK691 := n2_; have GW691 := n3_; have GE691 := n4_; have NB690_691 := n5_; have NB691_690 := n6_; clear n0_ n1_ n2_ n3_ n4_ n5_ n6_; clear hb hbox hg; have hnb64 := NB690_691.out; have hnc64 := NB691_690.out; have hcz65_0 : w63.cell? ⟨gb690, 0, none⟩ = some (.int .i64 a0_0) := (blk_cell BK690.out 0).trans rfl; have hcz65_1 : w63.cell? ⟨gb690, 1, none⟩ = some (.int .i64 a0_1) := (blk_cell BK690.out 1).trans rfl; have hcz65_2 : w63.cell? ⟨gb690, 2, none⟩ = some (.slice A0_2 l0_2.length c0_2) := (blk_cell BK690.out 2).trans rfl; have hfz65_0 := blk_frozen BK690.out 0; have hfz65_1 := blk_frozen BK690.out 1; have hfz65_2 := blk_frozen BK690.out 2) | ((with_reducible refine gate_callee (f := 54) rfl ?_); refine goesL_ (some 11) rfl rfl Try.func54 (by kernel_rfl) rfl #[.agg #[.int .i64 a0_0, .int .i64 a0_1, .slice A0_2 l0_2.length c0_2]] rfl mapx ?_; (with_reducible refine (barscanref31_ValidImage.calls a0_0 a0_1 _ _ l0_2 false _ ?side1 ?side2 A3.out).mono ?_); (case side1 => repeat (first | exact (Kd.C_below HR0_2.out HB.out) | (with_reducible refine Kd.C_alloc ?_ _) | (with_reducible refine Kd.C_drewN ?_ _) | (with_reducible refine Kd.C_drew ?_))); (case side2 => exact HC0_2.out); rintro e w66 ⟨rfl, hb⟩; refine ⟨_, rfl, ?_⟩; have n0_ := Aside0.mk (blk_below (bkx BK690) hb); have n1_ := Aside0.mk (blk_below (bkx BK691) hb); have n2_ := Aside0.mk (below_step (hb2 HB GE690 GE691) hb); clear BK690; clear BK691; clear HB; have BK690 := n0_; have BK691 := n1_; have HB := n2_; clear n0_ n1_ n2_; (try clear hb); (try clear hb2); (try clear hk); (try clear hi); have hcz67_0 : w66.cell? ⟨gb691, 0, none⟩ = some (.int .i64 0) := (blk_cell BK691.out 0).trans rfl; have hcz67_1 : w66.cell? ⟨gb691, 1, none⟩ = some (.int .i64 0) := (blk_cell BK691.out 1).trans rfl; have hcz67_2 : w66.cell? ⟨gb691, 2, none⟩ = some (.slice none 0 0) := (blk_cell BK691.out 2).trans rfl; have hfz67_0 := blk_frozen BK691.out 0; have hfz67_1 := blk_frozen BK691.out 1; have hfz67_2 := blk_frozen BK691.out 2))
  refine bodyPost_ret (results_ct rfl _ _ gb691 58 #[.int .i64 0, .int .i64 0, .slice none 0 0] (0, 0) _ rfl (by refine bkt ?_; refine blk_put (cs := #[.int .i64 0, .int .i64 0, .slice none 0 0]) ?_ 2 _ rfl; refine bkt ?_; refine blk_put (cs := #[.int .i64 0, .int .i64 0, .slice none 0 0]) ?_ 1 _ rfl; refine bkt ?_; refine blk_put (cs := #[.int .i64 0, .int .i64 0, .slice none 0 0]) ?_ 0 _ rfl; refine bkt ?_; exact BK691.out) Try.underlying58 rfl (by kernel_rfl)) rfl ?_
  exact ⟨_, by first | rfl | (simp [errW_none, errW_some] <;> rfl) | (simp [*, errW_none, errW_some] <;> rfl), by first | exact Kd.R_nil _ _ _ _ _ | exact Kd.N_nil _ _ _ _ _ | exact Kd.V_nil _ _ _ _ _ | exact Kd.Q_nil _ _ _ _ _ | exact Kd.S_nil _ _ _ _ _, by repeat (first | (with_reducible first | exact HB.out | apply below_alloc | apply pw_below_drewN | apply below_drew1 | refine below_set ?_ GE690.out | refine below_set ?_ GE691.out) | exact HB.out)⟩

end Go.Proofs.Ytcmcmoaikabfoaa.PR
