-- Written by this session's own program (myprint.py).
import Derived.Test.YtcmcmoaikabfoaaPRx0
import Derived.Test.YtcmcmoaikabfoaaPRx3
namespace Go.Proofs.Ytcmcmoaikabfoaa.PR
open Go.RowKit Go.Proofs.YtcmcmoaikabfoaaW.PrintWords Go.Proofs.YtcmcmoaikabfoaaW.PrintLast Go.Proofs.YtcmcmoaikabfoaaW.PrintMore Go.Proofs.Ytcmcmoaikabfoaa.XWords Go.Proofs.Ytcmcmoaikabfoaa.XShort
attribute [local go_sem] max2_int min2_int max_two min_two max_three min_three max_four min_four   -- for this text's walks alone
set_option linter.unusedVariables false
set_option linter.unusedSimpArgs false

/-! ### barscanref31_quarters: function 58 -/
def barscanref31_quarters.f (a0 : Int) : Option (Int) := some (Int.tmod (wrap64 ((Int.tmod a0 4) + 4)) 4)
set_option maxHeartbeats 8000000 in
set_option maxRecDepth 100000 in
theorem barscanref31_quarters.calls (a0 : Int) (r : Int) (w : World) (h : barscanref31_quarters.f a0 = some r) :
  Calls Try.prog 58 #[.int .i64 a0] w fun e w' => e = .returned (.int .i64 r) ∧ Drawn0 w w' := by
 have H : (some (Int.tmod (wrap64 ((Int.tmod a0 4) + 4)) 4)) = some r := h
 clear h
 obtain rfl := Option.some.inj H
 go_enter Try.func58, Try.ntmps58
 go_wp2
 go_ret
 exact ⟨by first | rfl | (simp; done) | (simp [*]; done), by repeat (first | exact Drawn0.refl _ | apply Drawn0.step)⟩

/-! ### barscanref31_turned: function 59 -/
def barscanref31_turned.f (a0 : Int) (a1 : Int) (a2 : Int) : Option (Int) := if a1 = 0 then (none) else (some (wrap64 ((wrap64 ((wrap64 ((wrap64 (a1 - 1)) - (Int.tmod a2 a1))) * a0)) + (wrap64 (Int.tdiv a2 a1)))))
set_option maxHeartbeats 8000000 in
set_option maxRecDepth 100000 in
theorem barscanref31_turned.calls (a0 : Int) (a1 : Int) (a2 : Int) (r : Int) (w : World) (h : barscanref31_turned.f a0 a1 a2 = some r) :
  Calls Try.prog 59 #[.int .i64 a0, .int .i64 a1, .int .i64 a2] w fun e w' => e = .returned (.int .i64 r) ∧ Drawn0 w w' := by
 have H : (if a1 = 0 then (none) else (some (wrap64 ((wrap64 ((wrap64 ((wrap64 (a1 - 1)) - (Int.tmod a2 a1))) * a0)) + (wrap64 (Int.tdiv a2 a1)))))) = some r := h
 clear h
 by_cases c4 : a1 = 0
 ·rw [if_pos c4] at H
  exact absurd H (by simp)
 ·rw [if_neg c4] at H
  have c4b0 : (a1 == 0) = false := beq_eq_false_iff_ne.mpr c4
  have c4b1 : (a1 != 0) = true := bne_iff_ne.mpr c4
  obtain rfl := Option.some.inj H
  go_enter Try.func59, Try.ntmps59
  go_wp2
  go_ret
  exact ⟨by first | rfl | (simp; done) | (simp [*]; done), by repeat (first | exact Drawn0.refl _ | apply Drawn0.step)⟩

/-! ### barscanref31_Turn: function 39 -/
mutual
def barscanref31_Turn.l0 : Nat → Int → Int → Int → Int → List Bool → Int → Int → List Bool → Option (Int × Int × List Bool × Int)
 | 0, _, _, _, _, _, _, _, _ => none
 | k + 1, x1, x7, x657000, x657001, x657002, x666000, x666001, x666002 => (barscanref31_quarters.f x1).bind fun t666 => (if x7 < t666 then (barscanref31_Turn.l1 k x1 x7 0 x657000 x657001 x657002 x666000 x666001 x666002 x666001 x666000 ([] : List Bool)) else (some (x666000, x666001, x666002, 0)))
def barscanref31_Turn.l1 : Nat → Int → Int → Int → Int → Int → List Bool → Int → Int → List Bool → Int → Int → List Bool → Option (Int × Int × List Bool × Int)
 | 0, _, _, _, _, _, _, _, _, _, _, _, _ => none
 | k + 1, x1, x7, x9, x657000, x657001, x657002, x666000, x666001, x666002, x668000, x668001, x668002 => if x9 < (x657002.length : Int) then ((barscanref31_turned.f x666000 x666001 x9).bind fun t668 => (if 0 ≤ t668 then (if t668 < (x666002.length : Int) then (if x668002.length < 140737488355328 then (barscanref31_Turn.l1 k x1 x7 (wrap64 (x9 + 1)) x657000 x657001 x657002 x666000 x666001 x666002 x668000 x668001 (x668002 ++ [rdOf false x666002 t668])) else (none)) else (none)) else (none))) else (barscanref31_Turn.l0 k x1 (wrap64 (x7 + 1)) x657000 x657001 x657002 x668000 x668001 x668002)
end
def barscanref31_Turn.f (k : Nat) (a0_0 : Int) (a0_1 : Int) (l0_2 : List Bool) (a1 : Int) : Option (Int × Int × List Bool × Int) := (barscanref31_Valid.f a0_0 a0_1 l0_2).bind fun t658 => (if t658 = true then ((some (([] : List Bool) : List Bool)).bind fun y659 => (if y659.length + l0_2.length < 140737488355328 then (barscanref31_Turn.l0 k a1 0 a0_0 a0_1 l0_2 a0_0 a0_1 (y659 ++ l0_2)) else (none))) else (some (0, 0, ([] : List Bool), 1)))
theorem barscanref31_Turn.mono_l : ∀ k, (∀ y0 y1 y2 y3 y4 y5 y6 y7, LeO (barscanref31_Turn.l0 k y0 y1 y2 y3 y4 y5 y6 y7) (barscanref31_Turn.l0 (k + 1) y0 y1 y2 y3 y4 y5 y6 y7)) ∧ (∀ y0 y1 y2 y3 y4 y5 y6 y7 y8 y9 y10 y11, LeO (barscanref31_Turn.l1 k y0 y1 y2 y3 y4 y5 y6 y7 y8 y9 y10 y11) (barscanref31_Turn.l1 (k + 1) y0 y1 y2 y3 y4 y5 y6 y7 y8 y9 y10 y11))
 | 0 => ⟨fun _ _ _ _ _ _ _ _ r h => by simp [barscanref31_Turn.l0] at h, fun _ _ _ _ _ _ _ _ _ _ _ _ r h => by simp [barscanref31_Turn.l1] at h⟩
 | k + 1 => by
  obtain ⟨ih0, ih1⟩ := barscanref31_Turn.mono_l k
  refine ⟨?_, ?_⟩
  ·intro y0 y1 y2 y3 y4 y5 y6 y7
   unfold barscanref31_Turn.l0
   repeat' first
   | (with_reducible exact ih0 _ _ _ _ _ _ _ _)
   | (with_reducible exact ih1 _ _ _ _ _ _ _ _ _ _ _ _)
   | (with_reducible exact LeO.refl _)
   | (with_reducible exact LeO.none _)
   | (with_reducible refine LeO.ite ?_ ?_)
   | (with_reducible refine LeO.bind ?_ (fun _ => ?_))
   | exact ih0 _ _ _ _ _ _ _ _
   | exact ih1 _ _ _ _ _ _ _ _ _ _ _ _
   | exact LeO.none _
   | refine LeO.ite ?_ ?_
   | refine LeO.bind ?_ (fun _ => ?_)
  ·intro y0 y1 y2 y3 y4 y5 y6 y7 y8 y9 y10 y11
   unfold barscanref31_Turn.l1
   repeat' first
   | (with_reducible exact ih0 _ _ _ _ _ _ _ _)
   | (with_reducible exact ih1 _ _ _ _ _ _ _ _ _ _ _ _)
   | (with_reducible exact LeO.refl _)
   | (with_reducible exact LeO.none _)
   | (with_reducible refine LeO.ite ?_ ?_)
   | (with_reducible refine LeO.bind ?_ (fun _ => ?_))
   | exact ih0 _ _ _ _ _ _ _ _
   | exact ih1 _ _ _ _ _ _ _ _ _ _ _ _
   | exact LeO.none _
   | refine LeO.ite ?_ ?_
   | refine LeO.bind ?_ (fun _ => ?_)
theorem barscanref31_Turn.mono : ∀ a0 a1 a2 a3 k, LeO (barscanref31_Turn.f k a0 a1 a2 a3) (barscanref31_Turn.f (k + 1) a0 a1 a2 a3) := by
 intro a0 a1 a2 a3 k
 obtain ⟨ih0, ih1⟩ := barscanref31_Turn.mono_l k
 unfold barscanref31_Turn.f
 repeat' first
   | (with_reducible exact ih0 _ _ _ _ _ _ _ _)
   | (with_reducible exact ih1 _ _ _ _ _ _ _ _ _ _ _ _)
   | (with_reducible exact LeO.refl _)
   | (with_reducible exact LeO.none _)
   | (with_reducible refine LeO.ite ?_ ?_)
   | (with_reducible refine LeO.bind ?_ (fun _ => ?_))
   | exact ih0 _ _ _ _ _ _ _ _
   | exact ih1 _ _ _ _ _ _ _ _ _ _ _ _
   | exact LeO.none _
   | refine LeO.ite ?_ ?_
   | refine LeO.bind ?_ (fun _ => ?_)
def barscanref31_Turn.T3 : Bool × List (List Nat × List Nat) := (true, [([], []), ([0], [0]), ([], []), ([2], [2]), ([], []), ([], []), ([5], [5]), ([4, 6], [4, 6]), ([1, 3, 7], [1, 3, 7]), ([], []), ([9, 8, 7, 0, 1, 2, 3, 4, 5, 6, 7, 8, 9], [8, 9])])
def barscanref31_Turn.B3 : List Nat := [0, 1, 0, 4, 0, 0, 32, 112, 255, 0, 1023]
theorem barscanref31_Turn.tab3 : rtab .any (opsOf Try.f39 3) = barscanref31_Turn.T3 := by kernel_rfl
theorem barscanref31_Turn.bits3 : waitsOk barscanref31_Turn.T3.2 barscanref31_Turn.B3 = true := by kernel_rfl
def barscanref31_Turn.T11 : Bool × List (List Nat × List Nat) := (true, [([], []), ([0], [0]), ([], []), ([2], [2]), ([], []), ([4], [4]), ([], []), ([6], [6]), ([], []), ([5, 7, 8], [5, 7, 8]), ([3, 9], [3, 9]), ([10], [10]), ([11], [11]), ([1, 12, 9], [1, 12]), ([0, 1, 2, 3, 4, 5, 6, 7, 8, 9, 10, 11, 12, 13], []), ([14, 13, 13, 0, 1, 2, 3, 4, 5, 6, 7, 8, 9, 10, 11, 12, 13], [13, 14])])
def barscanref31_Turn.B11 : List Nat := [0, 1, 0, 4, 0, 16, 0, 64, 0, 496, 1020, 2044, 4092, 8191, 16383, 32767]
theorem barscanref31_Turn.tab11 : rtab .any (opsOf Try.f39 11) = barscanref31_Turn.T11 := by kernel_rfl
theorem barscanref31_Turn.bits11 : waitsOk barscanref31_Turn.T11.2 barscanref31_Turn.B11 = true := by kernel_rfl
set_option maxHeartbeats 8000000 in
set_option maxRecDepth 100000 in
theorem barscanref31_Turn.calls (k : Nat) (a0_0 : Int) (a0_1 : Int) (A0_2 : Option Addr) (c0_2 : Nat) (l0_2 : List Bool) (a1 : Int) (r1 : Int) (r2 : Int) (r3 : List Bool) (r4 : Int) (w : World) (hr0_2 : Kd.C Kd.bool w A0_2 l0_2.length l0_2) (hc0_2 : l0_2.length ≤ c0_2) (h : barscanref31_Turn.f k a0_0 a0_1 l0_2 a1 = some (r1, r2, r3, r4)) :
  Calls Try.prog 39 #[.agg #[.int .i64 a0_0, .int .i64 a0_1, .slice A0_2 l0_2.length c0_2], .int .i64 a1] w fun e w' => ∃ v2_ : Value, e = .returned (.tuple #[.agg #[.int .i64 r1, .int .i64 r2, v2_], .int .i64 r4]) ∧ Kd.R Kd.bool 4 w' w.heap.size (fun _ => True) v2_ r3 ∧ Below w.heap.size w w' := by
 have hu24 := Try.underlying24
 have HR0_2 := Aside0.mk hr0_2
 have HC0_2 := Aside0.mk hc0_2
 clear hr0_2 hc0_2
 have HB := Aside0.mk (Below.refl w.heap.size w)
 have H : ((barscanref31_Valid.f a0_0 a0_1 l0_2).bind fun t658 => (if t658 = true then ((some (([] : List Bool) : List Bool)).bind fun y659 => (if y659.length + l0_2.length < 140737488355328 then (barscanref31_Turn.l0 k a1 0 a0_0 a0_1 l0_2 a0_0 a0_1 (y659 ++ l0_2)) else (none))) else (some (0, 0, ([] : List Bool), 1)))) = some (r1, r2, r3, r4) := h
 clear h
 replace H := Option.bind_eq_some_iff.mp H
 obtain ⟨t658, A30, H⟩ := H
 replace H : (if t658 = true then ((some (([] : List Bool) : List Bool)).bind fun y659 => (if y659.length + l0_2.length < 140737488355328 then (barscanref31_Turn.l0 k a1 0 a0_0 a0_1 l0_2 a0_0 a0_1 (y659 ++ l0_2)) else (none))) else (some (0, 0, ([] : List Bool), 1))) = some (r1, r2, r3, r4) := H
 have A3 := Aside0.mk A30
 clear A30
 by_cases c4 : t658 = true
 ·subst c4
  have H1 : ((some (([] : List Bool) : List Bool)).bind fun y659 => (if y659.length + l0_2.length < 140737488355328 then (barscanref31_Turn.l0 k a1 0 a0_0 a0_1 l0_2 a0_0 a0_1 (y659 ++ l0_2)) else (none))) = some (r1, r2, r3, r4) := by rw [if_pos rfl] at H; exact H
  clear H
  have H := H1
  clear H1
  obtain ⟨y659, hy659⟩ : ∃ y_ : List Bool, y_ = (([] : List Bool)) := ⟨_, rfl⟩
  replace H : (if y659.length + l0_2.length < 140737488355328 then (barscanref31_Turn.l0 k a1 0 a0_0 a0_1 l0_2 a0_0 a0_1 (y659 ++ l0_2)) else (none)) = some (r1, r2, r3, r4) := by first | (rw [hy659]; with_reducible exact H) | (have H2_ := (Option.bind_some _ _).symm.trans H; rw [hy659]; with_reducible exact H2_) | (have H2_ := (Option.bind_some _ _).symm.trans H; with_reducible exact H2_) | with_reducible exact H | (rw [hy659]; exact H) | exact H
  have Ny659 := Aside0.mk hy659
  clear hy659
  by_cases c5 : y659.length + l0_2.length < 140737488355328
  ·rw [if_pos c5] at H
   have LMc5 := Aside0.mk c5
   clear c5
   obtain ⟨y662, hy662⟩ : ∃ y_ : List Bool, y_ = (y659 ++ l0_2) := ⟨_, rfl⟩
   replace H : (barscanref31_Turn.l0 k a1 0 a0_0 a0_1 l0_2 a0_0 a0_1 y662) = some (r1, r2, r3, r4) := by first | (rw [hy662]; with_reducible exact H) | (have H2_ := (Option.bind_some _ _).symm.trans H; rw [hy662]; with_reducible exact H2_) | (have H2_ := (Option.bind_some _ _).symm.trans H; with_reducible exact H2_) | with_reducible exact H | (rw [hy662]; exact H) | exact H
   have Ny662 := Aside0.mk hy662
   clear hy662
   have H' := Aside0.mk H
   clear H
   go_enter Try.func39, Try.ntmps39
   try go_wp2_with (first | ((with_reducible refine gate_dst (N := 2) rfl ?_); refine box_event ?hg (N := 2) ?hd (cs := #[.int .i64 a0_0, .int .i64 a0_1, .slice A0_2 l0_2.length c0_2]) (t := 24) ?hr ?_; (case hd => rfl); (case hg => rfl); (case hr => first | (go_simp; done) | (go_simp; rfl)); intro gb656 hg w6 hbox hb; have n0_ := Aside0.mk (below_step (hb0 HB) hb); have n1_ := Aside0.mk (hbox); have n2_ := Aside0.mk ((by rw [hg]; exact (below_size (hb0 HB)) : w.heap.size ≤ gb656)); have n3_ := Aside0.mk ((by rw [hg]; exact (below_size (hb0 HB)) : w.heap.size ≤ gb656)); clear HB; have HB := n0_; have BK656 := n1_; have GW656 := n2_; have GE656 := n3_; clear n0_ n1_ n2_ n3_; clear hb hbox hg) | ((with_reducible refine gate_dst (N := 4) rfl ?_); refine box_event ?hg (N := 4) ?hd (cs := #[.int .i64 0, .int .i64 0, .slice none 0 0]) (t := 24) ?hr ?_; (case hd => rfl); (case hg => rfl); (case hr => first | (go_simp; done) | (go_simp; rfl)); intro gb657 hg w7 hbox hb; have n0_ := Aside0.mk (blk_below (bkx BK656) hb); have n1_ := Aside0.mk (below_step (hb1 HB GE656) hb); have n2_ := Aside0.mk (hbox); have n3_ := Aside0.mk ((by rw [hg]; exact (below_size (hb1 HB GE656)) : w.heap.size ≤ gb657)); have n4_ := Aside0.mk ((by rw [hg]; exact (below_size (hb1 HB GE656)) : w.heap.size ≤ gb657)); have n5_ := Aside0.mk (nel hg BK656 : gb656 ≠ gb657); have n6_ := Aside0.mk (neg hg BK656 : gb657 ≠ gb656); clear BK656; clear HB; have BK656 := n0_; have HB := n1_; have BK657 := n2_; have GW657 := n3_; have GE657 := n4_; have NB656_657 := n5_; have NB657_656 := n6_; clear n0_ n1_ n2_ n3_ n4_ n5_ n6_; clear hb hbox hg; have hnb8 := NB656_657.out; have hnc8 := NB657_656.out; have hcz9_0 : w7.cell? ⟨gb656, 0, none⟩ = some (.int .i64 a0_0) := (blk_cell BK656.out 0).trans rfl; have hcz9_1 : w7.cell? ⟨gb656, 1, none⟩ = some (.int .i64 a0_1) := (blk_cell BK656.out 1).trans rfl; have hcz9_2 : w7.cell? ⟨gb656, 2, none⟩ = some (.slice A0_2 l0_2.length c0_2) := (blk_cell BK656.out 2).trans rfl; have hfz9_0 := blk_frozen BK656.out 0; have hfz9_1 := blk_frozen BK656.out 1; have hfz9_2 := blk_frozen BK656.out 2) | ((with_reducible refine gate_callee (f := 26) rfl ?_); refine goesL_ (some 11) rfl rfl Try.func26 (by kernel_rfl) rfl #[.agg #[.int .i64 a0_0, .int .i64 a0_1, .slice A0_2 l0_2.length c0_2]] rfl mapx ?_; (with_reducible refine (barscanref31_Valid.calls a0_0 a0_1 _ _ l0_2 true _ ?side1 ?side2 A3.out).mono ?_); (case side1 => repeat (first | exact (Kd.C_below HR0_2.out HB.out) | (with_reducible refine Kd.C_alloc ?_ _) | (with_reducible refine Kd.C_drewN ?_ _) | (with_reducible refine Kd.C_drew ?_))); (case side2 => exact HC0_2.out); rintro e w10 ⟨rfl, hb⟩; refine ⟨_, rfl, ?_⟩; have n0_ := Aside0.mk (blk_below (bkx BK656) hb); have n1_ := Aside0.mk (blk_below (bkx BK657) hb); have n2_ := Aside0.mk (below_step (hb2 HB GE656 GE657) hb); clear BK656; clear BK657; clear HB; have BK656 := n0_; have BK657 := n1_; have HB := n2_; clear n0_ n1_ n2_; (try clear hb); (try clear hb2); (try clear hk); (try clear hi)))
   have n0_ := Aside0.mk (blk_drew BK656.out)
   have n1_ := Aside0.mk (blk_drew BK657.out)
   have n2_ := Aside0.mk (below_drew1 HB.out)
   clear BK656
   clear BK657
   clear HB
   have BK656 := n0_
   have BK657 := n1_
   have HB := n2_
   clear n0_ n1_ n2_
   refine start_ (n := 11) (S := fun w' => w'.cell? ⟨gb656, 0, none⟩ = some (.int .i64 a0_0) ∧ w'.cell? ⟨gb656, 1, none⟩ = some (.int .i64 a0_1) ∧ w'.cell? ⟨gb656, 2, none⟩ = some (.slice A0_2 l0_2.length c0_2)) (ds := []) #[false, false, false, false, false, false, false, false, false, false, false] (by kernel_rfl) rfl rfl ⟨(blk_cell BK656.out 0).trans rfl, (blk_cell BK656.out 1).trans rfl, (blk_cell BK656.out 2).trans rfl⟩ (fun hHeld => ?_); refine with_tabW barscanref31_Turn.tab3 barscanref31_Turn.bits3 (fun HT_ HW_ => ?_)
   generalize w10.drew = w11 at BK656 BK657 HB hHeld ⊢
   refine pure_ (i := 0) (N := some 14) (v := ?_) (a' := ?_) #[true, false, false, false, false, false, false, false, false, false, false] rfl rfl (any_of HT_.out (by kernel_rfl)) (fun _ _ _ h => h) (Or.inl ⟨by rfl, ?_⟩) ?_ ?_
   rotate_left
   ·intro w'
    go_simp
    with_reducible rfl
   rotate_left
   ·simp only [Act.put, List.setIfInBounds_toArray, List.set_cons_zero, List.set_cons_succ, i64_w, i32_w]
    rfl
   refine pure_ (i := 2) (N := some 16) (v := ?_) (a' := ?_) #[true, false, true, false, false, false, false, false, false, false, false] rfl rfl (any_of HT_.out (by kernel_rfl)) (fun _ _ _ h => h) (Or.inl ⟨by rfl, ?_⟩) ?_ ?_
   rotate_left
   ·intro w'
    go_simp
    with_reducible rfl
   rotate_left
   ·simp only [Act.put, List.setIfInBounds_toArray, List.set_cons_zero, List.set_cons_succ, i64_w, i32_w]
    rfl
   refine pure_ (i := 5) (N := some 19) (v := ?_) (a' := ?_) #[true, false, true, false, false, true, false, false, false, false, false] rfl rfl (any_of HT_.out (by kernel_rfl)) (fun _ _ _ h => h) (Or.inl ⟨by rfl, ?_⟩) ?_ ?_
   rotate_left
   ·intro w'
    go_simp
    with_reducible rfl
   rotate_left
   ·simp only [Act.put, List.setIfInBounds_toArray, List.set_cons_zero, List.set_cons_succ, i64_w, i32_w]
    rfl
   refine take_ (i := 1) (N := some 15) (v := ?_) (a' := ?_) #[true, true, true, false, false, true, false, false, false, false, false] rfl rfl (take_ofW HT_.out HW_.out (by kernel_rfl)) (fun _ _ _ h => h) (Or.inl ⟨by rfl, ?_⟩) hHeld ?_ ?_
   rotate_left
   ·rintro w' ⟨s0, s1, s2⟩
    go_simp
    with_reducible rfl
   rotate_left
   ·simp only [Act.put, List.setIfInBounds_toArray, List.set_cons_zero, List.set_cons_succ, i64_w, i32_w]
    rfl
   refine take_ (i := 3) (N := some 17) (v := ?_) (a' := ?_) #[true, true, true, true, false, true, false, false, false, false, false] rfl rfl (take_ofW HT_.out HW_.out (by kernel_rfl)) (fun _ _ _ h => h) (Or.inl ⟨by rfl, ?_⟩) hHeld ?_ ?_
   rotate_left
   ·rintro w' ⟨s0, s1, s2⟩
    go_simp
    with_reducible rfl
   rotate_left
   ·simp only [Act.put, List.setIfInBounds_toArray, List.set_cons_zero, List.set_cons_succ, i64_w, i32_w]
    rfl
   refine take_ (i := 6) (N := some 20) (v := ?_) (a' := ?_) #[true, true, true, true, false, true, true, false, false, false, false] rfl rfl (take_ofW HT_.out HW_.out (by kernel_rfl)) (fun _ _ _ h => h) (Or.inl ⟨by rfl, ?_⟩) hHeld ?_ ?_
   rotate_left
   ·rintro w' ⟨s0, s1, s2⟩
    go_simp
    with_reducible rfl
   rotate_left
   ·simp only [Act.put, List.setIfInBounds_toArray, List.set_cons_zero, List.set_cons_succ, i64_w, i32_w]
    rfl
   refine join_ (σ := Value × Value × Nat) 1 #[true, true, true, true, true, true, true, true, true, true, false] (fun s_ => [(18, s_.1), (21, s_.2.1), (6, .pointer (some ⟨s_.2.2, 0, none⟩)), (22, .agg #[.int .i64 a0_0, .int .i64 a0_1, s_.2.1])]) (fun s_ w' => (w'.cell? ⟨gb656, 0, none⟩ = some (.int .i64 a0_0) ∧ w'.cell? ⟨gb656, 1, none⟩ = some (.int .i64 a0_1) ∧ w'.cell? ⟨gb656, 2, none⟩ = some (.slice A0_2 l0_2.length c0_2)) ∧ (Kd.R Kd.bool 4 w' w.heap.size (fun _ => True) s_.2.1 y662) ∧ (w'.heap[gb656]? = some (.cells #[.int .i64 a0_0, .int .i64 a0_1, .slice A0_2 l0_2.length c0_2] 24 (0, 0))) ∧ (w'.heap[gb657]? = some (.cells #[.int .i64 0, .int .i64 0, .slice none 0 0] 24 (0, 0))) ∧ (w'.heap[s_.2.2]? = some (.cells #[.int .i64 0, .int .i64 0, .slice none 0 0] 24 (0, 0))) ∧ (w.heap.size ≤ s_.2.2) ∧ (w.heap.size ≤ s_.2.2) ∧ (gb656 ≠ s_.2.2) ∧ (s_.2.2 ≠ gb656) ∧ (gb657 ≠ s_.2.2) ∧ (s_.2.2 ≠ gb657) ∧ (Below w.heap.size w w')) ?_ ?_
   rotate_left
   ·intro hCont
    refine two_ (i := 4) (j := 9) (Ni := some 18) (Nj := some 6) #[true, true, true, true, true, true, true, false, false, false, false] #[true, true, true, true, false, true, true, false, false, true, false] rfl rfl rfl rfl (two_of HT_.out (by kernel_rfl)) (by decide) (by decide) (fun K hK => ?_) (fun K hK => ?_)
    ·skip
     refine Kd.R_lit_step Kd.bool _ 4 ?hg (N := 18) ?hd (xs := ([] : List Bool)) (inner := []) (ok := fun _ => True) (okp := fun _ => True) ?hr ?hp (fun _ hk => hk) trivial (Below.refl _ _) (Nat.le_refl _) (by simp) ?_; (case hd => rfl); (case hg => rfl); (case hr => first | (go_simp; done) | (go_simp; rfl)); (case hp => exact (Reps.none _ _))
     intro v660 w12 ho13 hb hg_ hnew_
     clear hg_ hnew_
     (first | rw [← Ny659.out] at ho13 | (simp only [Int.reduceToNat] at ho13; rw [← Ny659.out] at ho13))
     have n0_ := Aside0.mk (Kd.R_lower ho13 (below_size (hb2 HB GE656 GE657)))
     have n1_ := Aside0.mk (blk_below (bkx BK656) hb)
     have n2_ := Aside0.mk (blk_below (bkx BK657) hb)
     have n3_ := Aside0.mk (below_step (hb2 HB GE656 GE657) hb)
     clear BK656
     clear BK657
     clear HB
     have HO661 := n0_
     have BK656 := n1_
     have BK657 := n2_
     have HB := n3_
     clear n0_ n1_ n2_ n3_
     clear hb ho13
     refine hK.out _ _ ⟨(blk_cell BK656.out 0).trans rfl, (blk_cell BK656.out 1).trans rfl, (blk_cell BK656.out 2).trans rfl⟩ (fun hHeld => ?_)
     clear hK K
     refine norm_ (a' := ?_) ?_ ?_
     rotate_left
     ·show Act.put _ (some 18) _ = _
      simp only [Act.put, List.setIfInBounds_toArray, List.set_cons_zero, List.set_cons_succ, i64_w, i32_w]
      rfl
     refine two_ (i := 7) (j := 9) (Ni := some 21) (Nj := some 6) #[true, true, true, true, true, true, true, true, false, false, false] #[true, true, true, true, true, true, true, false, false, true, false] rfl rfl rfl rfl (two_of HT_.out (by kernel_rfl)) (by decide) (by decide) (fun K hK => ?_) (fun K hK => ?_)
     ·skip
      refine Kd.R_append_rows_step Kd.bool (w0 := w) w.heap.size (by rfl) (.tmp 18) (.tmp 20) 22 4 (.bool false) 1 rfl Try.underlying22 info4 rfl (by decide) (by omega) v660 y659 l0_2 _ _ _ (fun _ => True) (fun _ => False) rfl rfl ?aO ?aR (fun _ _ h => h) (fun _ h => h.elim) ?aF ?aB ?aS ?aL ?_
      (case aR => repeat (first | exact (Kd.C_below HR0_2.out HB.out) | (with_reducible refine Kd.C_alloc ?_ _) | (with_reducible refine Kd.C_drewN ?_ _) | (with_reducible refine Kd.C_drew ?_)))
      (case aB => exact (hb2 HB GE656 GE657))
      (case aF => exact (fun _ _ => trivial))
      (case aO => exact (rkx HO661))
      (case aS => exact (below_size (hb2 HB GE656 GE657)))
      (case aL => have := LMc5.out; omega)
      intro v663 w14 ho hb hg hat
      rw [← Ny662.out] at ho
      have n0_ := Aside0.mk (blk_grown (g := gb656) (o := .cells #[.int .i64 a0_0, .int .i64 a0_1, .slice A0_2 l0_2.length c0_2] 24 (0, 0)) (bkx BK656) hg (Kd.R_ne HO661.out BK656.out (by decide)))
      have n1_ := Aside0.mk (blk_grown (g := gb657) (o := .cells #[.int .i64 0, .int .i64 0, .slice none 0 0] 24 (0, 0)) (bkx BK657) hg (Kd.R_ne HO661.out BK657.out (by decide)))
      have n2_ := Aside0.mk (hb)
      have n3_ := Aside0.mk (ho)
      clear BK656
      clear BK657
      clear HB
      clear HO661
      have BK656 := n0_
      have BK657 := n1_
      have HB := n2_
      have HO664 := n3_
      clear n0_ n1_ n2_ n3_
      clear ho hb hg hat
      obtain ⟨Ao15, co15, eo15⟩ := Kd.R_slice HO664.out
      (first | subst eo15 | (injection eo15 with f1_ f2_ f3_; have f4_ := f1_.symm; have f5_ := f3_.symm; clear f1_ f2_ f3_; subst f4_; subst f5_))
      refine hK.out _ _ ⟨(blk_cell BK656.out 0).trans rfl, (blk_cell BK656.out 1).trans rfl, (blk_cell BK656.out 2).trans rfl⟩ (fun hHeld => ?_)
      clear hK K
      refine norm_ (a' := ?_) ?_ ?_
      rotate_left
      ·show Act.put _ (some 21) _ = _
       simp only [Act.put, List.setIfInBounds_toArray, List.set_cons_zero, List.set_cons_succ, i64_w, i32_w]
       rfl
      refine pure_ (i := 8) (N := some 22) (v := ?_) (a' := ?_) #[true, true, true, true, true, true, true, true, true, false, false] rfl rfl (any_of HT_.out (by kernel_rfl)) (fun _ _ _ h => h) (Or.inl ⟨by rfl, ?_⟩) ?_ ?_
      rotate_left
      ·intro w'
       go_simp
       with_reducible rfl
      rotate_left
      ·simp only [Act.put, List.setIfInBounds_toArray, List.set_cons_zero, List.set_cons_succ, i64_w, i32_w]
       rfl
      refine one_ (i := 9) (N := some 6) #[true, true, true, true, true, true, true, true, true, true, false] rfl rfl (one_of HT_.out (by kernel_rfl)) (by decide) (fun K hK => ?_)
      refine box_step ?hg (N := 6) ?hd (cs := #[.int .i64 0, .int .i64 0, .slice none 0 0]) (t := 24) ?hr ?_; (case hd => rfl); (case hg => rfl); (case hr => first | (go_simp; done) | (go_simp; rfl))
      intro gb665 hg w16 hbox hb
      have n0_ := Aside0.mk (Kd.R_below (rkx HO664) hb)
      have n1_ := Aside0.mk (blk_below (bkx BK656) hb)
      have n2_ := Aside0.mk (blk_below (bkx BK657) hb)
      have n3_ := Aside0.mk (below_step (hb2 HB GE656 GE657) hb)
      have n4_ := Aside0.mk (hbox)
      have n5_ := Aside0.mk ((by rw [hg]; exact (below_size (hb2 HB GE656 GE657)) : w.heap.size ≤ gb665))
      have n6_ := Aside0.mk ((by rw [hg]; exact (below_size (hb2 HB GE656 GE657)) : w.heap.size ≤ gb665))
      have n7_ := Aside0.mk (nel hg BK656 : gb656 ≠ gb665)
      have n8_ := Aside0.mk (neg hg BK656 : gb665 ≠ gb656)
      have n9_ := Aside0.mk (nel hg BK657 : gb657 ≠ gb665)
      have n10_ := Aside0.mk (neg hg BK657 : gb665 ≠ gb657)
      clear HO664
      clear BK656
      clear BK657
      clear HB
      have HO664 := n0_
      have BK656 := n1_
      have BK657 := n2_
      have HB := n3_
      have BK665 := n4_
      have GW665 := n5_
      have GE665 := n6_
      have NB656_665 := n7_
      have NB665_656 := n8_
      have NB657_665 := n9_
      have NB665_657 := n10_
      clear n0_ n1_ n2_ n3_ n4_ n5_ n6_ n7_ n8_ n9_ n10_
      clear hb hbox hg
      refine hK.out _ _ ⟨(blk_cell BK656.out 0).trans rfl, (blk_cell BK656.out 1).trans rfl, (blk_cell BK656.out 2).trans rfl⟩ (fun hHeld => ?_)
      clear hK K
      refine norm_ (a' := ?_) ?_ ?_
      rotate_left
      ·show Act.put _ (some 6) _ = _
       simp only [Act.put, List.setIfInBounds_toArray, List.set_cons_zero, List.set_cons_succ, i64_w, i32_w]
       rfl
      exact norm_ (by simp only [putAll, Act.put, List.setIfInBounds_toArray, List.set_cons_zero, List.set_cons_succ]) (hCont (v660, .slice Ao15 y662.length co15, gb665) _ ⟨hHeld, (rkx HO664), (bkx BK656), (bkx BK657), (bkx BK665), GW665.out, GE665.out, NB656_665.out, NB665_656.out, NB657_665.out, NB665_657.out, (hb3 HB GE656 GE657 GE665)⟩)
     ·skip
      refine box_step ?hg (N := 6) ?hd (cs := #[.int .i64 0, .int .i64 0, .slice none 0 0]) (t := 24) ?hr ?_; (case hd => rfl); (case hg => rfl); (case hr => first | (go_simp; done) | (go_simp; rfl))
      intro gb665 hg w14 hbox hb
      have n0_ := Aside0.mk (Kd.R_below (rkx HO661) hb)
      have n1_ := Aside0.mk (blk_below (bkx BK656) hb)
      have n2_ := Aside0.mk (blk_below (bkx BK657) hb)
      have n3_ := Aside0.mk (below_step (hb2 HB GE656 GE657) hb)
      have n4_ := Aside0.mk (hbox)
      have n5_ := Aside0.mk ((by rw [hg]; exact (below_size (hb2 HB GE656 GE657)) : w.heap.size ≤ gb665))
      have n6_ := Aside0.mk ((by rw [hg]; exact (below_size (hb2 HB GE656 GE657)) : w.heap.size ≤ gb665))
      have n7_ := Aside0.mk (nel hg BK656 : gb656 ≠ gb665)
      have n8_ := Aside0.mk (neg hg BK656 : gb665 ≠ gb656)
      have n9_ := Aside0.mk (nel hg BK657 : gb657 ≠ gb665)
      have n10_ := Aside0.mk (neg hg BK657 : gb665 ≠ gb657)
      clear HO661
      clear BK656
      clear BK657
      clear HB
      have HO661 := n0_
      have BK656 := n1_
      have BK657 := n2_
      have HB := n3_
      have BK665 := n4_
      have GW665 := n5_
      have GE665 := n6_
      have NB656_665 := n7_
      have NB665_656 := n8_
      have NB657_665 := n9_
      have NB665_657 := n10_
      clear n0_ n1_ n2_ n3_ n4_ n5_ n6_ n7_ n8_ n9_ n10_
      clear hb hbox hg
      refine hK.out _ _ ⟨(blk_cell BK656.out 0).trans rfl, (blk_cell BK656.out 1).trans rfl, (blk_cell BK656.out 2).trans rfl⟩ (fun hHeld => ?_)
      clear hK K
      refine norm_ (a' := ?_) ?_ ?_
      rotate_left
      ·show Act.put _ (some 6) _ = _
       simp only [Act.put, List.setIfInBounds_toArray, List.set_cons_zero, List.set_cons_succ, i64_w, i32_w]
       rfl
      refine one_ (i := 7) (N := some 21) #[true, true, true, true, true, true, true, true, false, true, false] rfl rfl (one_of HT_.out (by kernel_rfl)) (by decide) (fun K hK => ?_)
      refine Kd.R_append_rows_step Kd.bool (w0 := w) w.heap.size (by rfl) (.tmp 18) (.tmp 20) 22 4 (.bool false) 1 rfl Try.underlying22 info4 rfl (by decide) (by omega) v660 y659 l0_2 _ _ _ (fun _ => True) (fun _ => False) rfl rfl ?aO ?aR (fun _ _ h => h) (fun _ h => h.elim) ?aF ?aB ?aS ?aL ?_
      (case aR => repeat (first | exact (Kd.C_below HR0_2.out HB.out) | (with_reducible refine Kd.C_alloc ?_ _) | (with_reducible refine Kd.C_drewN ?_ _) | (with_reducible refine Kd.C_drew ?_)))
      (case aB => exact (hb3 HB GE656 GE657 GE665))
      (case aF => exact (fun _ _ => trivial))
      (case aO => exact (rkx HO661))
      (case aS => exact (below_size (hb3 HB GE656 GE657 GE665)))
      (case aL => have := LMc5.out; omega)
      intro v663 w15 ho hb hg hat
      rw [← Ny662.out] at ho
      have n0_ := Aside0.mk (blk_grown (g := gb656) (o := .cells #[.int .i64 a0_0, .int .i64 a0_1, .slice A0_2 l0_2.length c0_2] 24 (0, 0)) (bkx BK656) hg (Kd.R_ne HO661.out BK656.out (by decide)))
      have n1_ := Aside0.mk (blk_grown (g := gb657) (o := .cells #[.int .i64 0, .int .i64 0, .slice none 0 0] 24 (0, 0)) (bkx BK657) hg (Kd.R_ne HO661.out BK657.out (by decide)))
      have n2_ := Aside0.mk (blk_grown (g := gb665) (o := .cells #[.int .i64 0, .int .i64 0, .slice none 0 0] 24 (0, 0)) (bkx BK665) hg (Kd.R_ne HO661.out BK665.out (by decide)))
      have n3_ := Aside0.mk (hb)
      have n4_ := Aside0.mk (ho)
      clear BK656
      clear BK657
      clear BK665
      clear HB
      clear HO661
      have BK656 := n0_
      have BK657 := n1_
      have BK665 := n2_
      have HB := n3_
      have HO664 := n4_
      clear n0_ n1_ n2_ n3_ n4_
      clear ho hb hg hat
      obtain ⟨Ao16, co16, eo16⟩ := Kd.R_slice HO664.out
      (first | subst eo16 | (injection eo16 with f1_ f2_ f3_; have f4_ := f1_.symm; have f5_ := f3_.symm; clear f1_ f2_ f3_; subst f4_; subst f5_))
      refine hK.out _ _ ⟨(blk_cell BK656.out 0).trans rfl, (blk_cell BK656.out 1).trans rfl, (blk_cell BK656.out 2).trans rfl⟩ (fun hHeld => ?_)
      clear hK K
      refine norm_ (a' := ?_) ?_ ?_
      rotate_left
      ·show Act.put _ (some 21) _ = _
       simp only [Act.put, List.setIfInBounds_toArray, List.set_cons_zero, List.set_cons_succ, i64_w, i32_w]
       rfl
      refine pure_ (i := 8) (N := some 22) (v := ?_) (a' := ?_) #[true, true, true, true, true, true, true, true, true, true, false] rfl rfl (any_of HT_.out (by kernel_rfl)) (fun _ _ _ h => h) (Or.inl ⟨by rfl, ?_⟩) ?_ ?_
      rotate_left
      ·intro w'
       go_simp
       with_reducible rfl
      rotate_left
      ·simp only [Act.put, List.setIfInBounds_toArray, List.set_cons_zero, List.set_cons_succ, i64_w, i32_w]
       rfl
      exact norm_ (by simp only [putAll, Act.put, List.setIfInBounds_toArray, List.set_cons_zero, List.set_cons_succ]) (hCont (v660, .slice Ao16 y662.length co16, gb665) _ ⟨hHeld, (rkx HO664), (bkx BK656), (bkx BK657), (bkx BK665), GW665.out, GE665.out, NB656_665.out, NB665_656.out, NB657_665.out, NB665_657.out, (hb3 HB GE656 GE657 GE665)⟩)
    ·skip
     refine box_step ?hg (N := 6) ?hd (cs := #[.int .i64 0, .int .i64 0, .slice none 0 0]) (t := 24) ?hr ?_; (case hd => rfl); (case hg => rfl); (case hr => first | (go_simp; done) | (go_simp; rfl))
     intro gb665 hg w12 hbox hb
     have n0_ := Aside0.mk (blk_below (bkx BK656) hb)
     have n1_ := Aside0.mk (blk_below (bkx BK657) hb)
     have n2_ := Aside0.mk (below_step (hb2 HB GE656 GE657) hb)
     have n3_ := Aside0.mk (hbox)
     have n4_ := Aside0.mk ((by rw [hg]; exact (below_size (hb2 HB GE656 GE657)) : w.heap.size ≤ gb665))
     have n5_ := Aside0.mk ((by rw [hg]; exact (below_size (hb2 HB GE656 GE657)) : w.heap.size ≤ gb665))
     have n6_ := Aside0.mk (nel hg BK656 : gb656 ≠ gb665)
     have n7_ := Aside0.mk (neg hg BK656 : gb665 ≠ gb656)
     have n8_ := Aside0.mk (nel hg BK657 : gb657 ≠ gb665)
     have n9_ := Aside0.mk (neg hg BK657 : gb665 ≠ gb657)
     clear BK656
     clear BK657
     clear HB
     have BK656 := n0_
     have BK657 := n1_
     have HB := n2_
     have BK665 := n3_
     have GW665 := n4_
     have GE665 := n5_
     have NB656_665 := n6_
     have NB665_656 := n7_
     have NB657_665 := n8_
     have NB665_657 := n9_
     clear n0_ n1_ n2_ n3_ n4_ n5_ n6_ n7_ n8_ n9_
     clear hb hbox hg
     refine hK.out _ _ ⟨(blk_cell BK656.out 0).trans rfl, (blk_cell BK656.out 1).trans rfl, (blk_cell BK656.out 2).trans rfl⟩ (fun hHeld => ?_)
     clear hK K
     refine norm_ (a' := ?_) ?_ ?_
     rotate_left
     ·show Act.put _ (some 6) _ = _
      simp only [Act.put, List.setIfInBounds_toArray, List.set_cons_zero, List.set_cons_succ, i64_w, i32_w]
      rfl
     refine one_ (i := 4) (N := some 18) #[true, true, true, true, true, true, true, false, false, true, false] rfl rfl (one_of HT_.out (by kernel_rfl)) (by decide) (fun K hK => ?_)
     refine Kd.R_lit_step Kd.bool _ 4 ?hg (N := 18) ?hd (xs := ([] : List Bool)) (inner := []) (ok := fun _ => True) (okp := fun _ => True) ?hr ?hp (fun _ hk => hk) trivial (Below.refl _ _) (Nat.le_refl _) (by simp) ?_; (case hd => rfl); (case hg => rfl); (case hr => first | (go_simp; done) | (go_simp; rfl)); (case hp => exact (Reps.none _ _))
     intro v660 w13 ho14 hb hg_ hnew_
     clear hg_ hnew_
     (first | rw [← Ny659.out] at ho14 | (simp only [Int.reduceToNat] at ho14; rw [← Ny659.out] at ho14))
     have n0_ := Aside0.mk (Kd.R_lower ho14 (below_size (hb3 HB GE656 GE657 GE665)))
     have n1_ := Aside0.mk (blk_below (bkx BK656) hb)
     have n2_ := Aside0.mk (blk_below (bkx BK657) hb)
     have n3_ := Aside0.mk (blk_below (bkx BK665) hb)
     have n4_ := Aside0.mk (below_step (hb3 HB GE656 GE657 GE665) hb)
     clear BK656
     clear BK657
     clear BK665
     clear HB
     have HO661 := n0_
     have BK656 := n1_
     have BK657 := n2_
     have BK665 := n3_
     have HB := n4_
     clear n0_ n1_ n2_ n3_ n4_
     clear hb ho14
     refine hK.out _ _ ⟨(blk_cell BK656.out 0).trans rfl, (blk_cell BK656.out 1).trans rfl, (blk_cell BK656.out 2).trans rfl⟩ (fun hHeld => ?_)
     clear hK K
     refine norm_ (a' := ?_) ?_ ?_
     rotate_left
     ·show Act.put _ (some 18) _ = _
      simp only [Act.put, List.setIfInBounds_toArray, List.set_cons_zero, List.set_cons_succ, i64_w, i32_w]
      rfl
     refine one_ (i := 7) (N := some 21) #[true, true, true, true, true, true, true, true, false, true, false] rfl rfl (one_of HT_.out (by kernel_rfl)) (by decide) (fun K hK => ?_)
     refine Kd.R_append_rows_step Kd.bool (w0 := w) w.heap.size (by rfl) (.tmp 18) (.tmp 20) 22 4 (.bool false) 1 rfl Try.underlying22 info4 rfl (by decide) (by omega) v660 y659 l0_2 _ _ _ (fun _ => True) (fun _ => False) rfl rfl ?aO ?aR (fun _ _ h => h) (fun _ h => h.elim) ?aF ?aB ?aS ?aL ?_
     (case aR => repeat (first | exact (Kd.C_below HR0_2.out HB.out) | (with_reducible refine Kd.C_alloc ?_ _) | (with_reducible refine Kd.C_drewN ?_ _) | (with_reducible refine Kd.C_drew ?_)))
     (case aB => exact (hb3 HB GE656 GE657 GE665))
     (case aF => exact (fun _ _ => trivial))
     (case aO => exact (rkx HO661))
     (case aS => exact (below_size (hb3 HB GE656 GE657 GE665)))
     (case aL => have := LMc5.out; omega)
     intro v663 w15 ho hb hg hat
     rw [← Ny662.out] at ho
     have n0_ := Aside0.mk (blk_grown (g := gb656) (o := .cells #[.int .i64 a0_0, .int .i64 a0_1, .slice A0_2 l0_2.length c0_2] 24 (0, 0)) (bkx BK656) hg (Kd.R_ne HO661.out BK656.out (by decide)))
     have n1_ := Aside0.mk (blk_grown (g := gb657) (o := .cells #[.int .i64 0, .int .i64 0, .slice none 0 0] 24 (0, 0)) (bkx BK657) hg (Kd.R_ne HO661.out BK657.out (by decide)))
     have n2_ := Aside0.mk (blk_grown (g := gb665) (o := .cells #[.int .i64 0, .int .i64 0, .slice none 0 0] 24 (0, 0)) (bkx BK665) hg (Kd.R_ne HO661.out BK665.out (by decide)))
     have n3_ := Aside0.mk (hb)
     have n4_ := Aside0.mk (ho)
     clear BK656
     clear BK657
     clear BK665
     clear HB
     clear HO661
     have BK656 := n0_
     have BK657 := n1_
     have BK665 := n2_
     have HB := n3_
     have HO664 := n4_
     clear n0_ n1_ n2_ n3_ n4_
     clear ho hb hg hat
     obtain ⟨Ao16, co16, eo16⟩ := Kd.R_slice HO664.out
     (first | subst eo16 | (injection eo16 with f1_ f2_ f3_; have f4_ := f1_.symm; have f5_ := f3_.symm; clear f1_ f2_ f3_; subst f4_; subst f5_))
     refine hK.out _ _ ⟨(blk_cell BK656.out 0).trans rfl, (blk_cell BK656.out 1).trans rfl, (blk_cell BK656.out 2).trans rfl⟩ (fun hHeld => ?_)
     clear hK K
     refine norm_ (a' := ?_) ?_ ?_
     rotate_left
     ·show Act.put _ (some 21) _ = _
      simp only [Act.put, List.setIfInBounds_toArray, List.set_cons_zero, List.set_cons_succ, i64_w, i32_w]
      rfl
     refine pure_ (i := 8) (N := some 22) (v := ?_) (a' := ?_) #[true, true, true, true, true, true, true, true, true, true, false] rfl rfl (any_of HT_.out (by kernel_rfl)) (fun _ _ _ h => h) (Or.inl ⟨by rfl, ?_⟩) ?_ ?_
     rotate_left
     ·intro w'
      go_simp
      with_reducible rfl
     rotate_left
     ·simp only [Act.put, List.setIfInBounds_toArray, List.set_cons_zero, List.set_cons_succ, i64_w, i32_w]
      rfl
     exact norm_ (by simp only [putAll, Act.put, List.setIfInBounds_toArray, List.set_cons_zero, List.set_cons_succ]) (hCont (v660, .slice Ao16 y662.length co16, gb665) _ ⟨hHeld, (rkx HO664), (bkx BK656), (bkx BK657), (bkx BK665), GW665.out, GE665.out, NB656_665.out, NB665_656.out, NB657_665.out, NB665_657.out, (hb3 HB GE656 GE657 GE665)⟩)
   rintro ⟨v660, v663, gb665⟩ w17 ⟨hS_, h0_, h1_, h2_, h3_, h4_, h5_, h6_, h7_, h8_, h9_, h10_⟩
   have n0_ : Aside0 (Kd.R Kd.bool 4 w17 w.heap.size (fun _ => True) v663 y662) := ⟨h0_⟩
   have n1_ : Aside0 (w17.heap[gb656]? = some (.cells #[.int .i64 a0_0, .int .i64 a0_1, .slice A0_2 l0_2.length c0_2] 24 (0, 0))) := ⟨h1_⟩
   have n2_ : Aside0 (w17.heap[gb657]? = some (.cells #[.int .i64 0, .int .i64 0, .slice none 0 0] 24 (0, 0))) := ⟨h2_⟩
   have n3_ : Aside0 (w17.heap[gb665]? = some (.cells #[.int .i64 0, .int .i64 0, .slice none 0 0] 24 (0, 0))) := ⟨h3_⟩
   have n4_ : Aside0 (w.heap.size ≤ gb665) := ⟨h4_⟩
   have n5_ : Aside0 (w.heap.size ≤ gb665) := ⟨h5_⟩
   have n6_ : Aside0 (gb656 ≠ gb665) := ⟨h6_⟩
   have n7_ : Aside0 (gb665 ≠ gb656) := ⟨h7_⟩
   have n8_ : Aside0 (gb657 ≠ gb665) := ⟨h8_⟩
   have n9_ : Aside0 (gb665 ≠ gb657) := ⟨h9_⟩
   have n10_ : Aside0 (Below w.heap.size w w17) := ⟨h10_⟩
   clear BK656
   clear BK657
   clear HB
   clear h0_ h1_ h2_ h3_ h4_ h5_ h6_ h7_ h8_ h9_ h10_
   have HO664 := n0_
   have BK656 := n1_
   have BK657 := n2_
   have BK665 := n3_
   have GW665 := n4_
   have GE665 := n5_
   have NB656_665 := n6_
   have NB665_656 := n7_
   have NB657_665 := n8_
   have NB665_657 := n9_
   have HB := n10_
   clear n0_ n1_ n2_ n3_ n4_ n5_ n6_ n7_ n8_ n9_ n10_
   have hHeld : w17.cell? ⟨gb656, 0, none⟩ = some (.int .i64 a0_0) ∧ w17.cell? ⟨gb656, 1, none⟩ = some (.int .i64 a0_1) ∧ w17.cell? ⟨gb656, 2, none⟩ = some (.slice A0_2 l0_2.length c0_2) := hS_
   obtain ⟨Ao18, co18, eo18⟩ := Kd.R_slice HO664.out
   (first | subst eo18 | (injection eo18 with f1_ f2_ f3_; have f4_ := f1_.symm; have f5_ := f3_.symm; clear f1_ f2_ f3_; subst f4_; subst f5_))
   refine norm_ (a' := ?_) ?_ ?_
   rotate_left
   ·simp only [putAll, Act.put, List.setIfInBounds_toArray, List.set_cons_zero, List.set_cons_succ]
    rfl
   refine one_ (i := 10) (N := none) #[true, true, true, true, true, true, true, true, true, true, true] rfl rfl (one_of HT_.out (by kernel_rfl)) (by decide) (fun K hK => ?_)
   have hs19 : w17.cell? ⟨gb665, 0, none⟩ = some (.int .i64 0) := (blk_cell BK665.out 0).trans rfl
   have hfs19 := blk_frozen BK665.out 0
   have hns19_0 := NB656_665.out
   have hns19_1 := NB657_665.out
   have hms19_0 := NB665_656.out
   have hms19_1 := NB665_657.out
   have hs20 : w17.cell? ⟨gb665, 1, none⟩ = some (.int .i64 0) := (blk_cell BK665.out 1).trans rfl
   have hfs20 := blk_frozen BK665.out 1
   have hns20_0 := NB656_665.out
   have hns20_1 := NB657_665.out
   have hms20_0 := NB665_656.out
   have hms20_1 := NB665_657.out
   have hs21 : w17.cell? ⟨gb665, 2, none⟩ = some (.slice none 0 0) := (blk_cell BK665.out 2).trans rfl
   have hfs21 := blk_frozen BK665.out 2
   have hns21_0 := NB656_665.out
   have hns21_1 := NB657_665.out
   have hms21_0 := NB665_656.out
   have hms21_1 := NB665_657.out
   refine skip_ (w1 := ?_) (by rfl) rfl ?_ ?_
   rotate_left
   ·go_simp
    rfl
   refine hK.out _ _ ⟨((cell_far (p := ⟨gb665, _, none⟩) NB656_665.out _).trans (((cell_far (p := ⟨gb665, _, none⟩) NB656_665.out _).trans (((cell_far (p := ⟨gb665, _, none⟩) NB656_665.out _).trans (hHeld.1)))))), ((cell_far (p := ⟨gb665, _, none⟩) NB656_665.out _).trans (((cell_far (p := ⟨gb665, _, none⟩) NB656_665.out _).trans (((cell_far (p := ⟨gb665, _, none⟩) NB656_665.out _).trans (hHeld.2.1)))))), ((cell_far (p := ⟨gb665, _, none⟩) NB656_665.out _).trans (((cell_far (p := ⟨gb665, _, none⟩) NB656_665.out _).trans (((cell_far (p := ⟨gb665, _, none⟩) NB656_665.out _).trans (hHeld.2.2))))))⟩ (fun hHeld => ?_)
   clear hK K
   refine done_ (done_of HT_.out (by kernel_rfl)) ?_
   try go_wp2
   go_loopg [7] k (fun kq v7 w' => ∃ (x7_1 : Int) (x666000_1 : Int) (x666001_1 : Int) (x666002_1 : List Bool) (u666002 : Value), v7 = .int .i64 x7_1 ∧ Aside0 (barscanref31_Turn.l0 kq a1 x7_1 a0_0 a0_1 l0_2 x666000_1 x666001_1 x666002_1 = some (r1, r2, r3, r4)) ∧ Aside0 (kq ≤ k) ∧ Aside0 (Kd.R Kd.bool 4 w' w.heap.size (fun _ => True) u666002 x666002_1) ∧ Aside0 (w'.heap[gb656]? = some (.cells #[.int .i64 a0_0, .int .i64 a0_1, (.slice A0_2 l0_2.length c0_2)] 24 (0, 0))) ∧ Aside0 (w'.heap[gb657]? = some (.cells #[.int .i64 0, .int .i64 0, (.slice none 0 0)] 24 (0, 0))) ∧ Aside0 (w'.heap[gb665]? = some (.cells #[.int .i64 x666000_1, .int .i64 x666001_1, u666002] 24 (0, 0))) ∧ Aside0 (Below w.heap.size w w'))
   case atStart => exact ⟨(0), (a0_0), (a0_1), (y662), (.slice Ao18 y662.length co18), (by first | rfl | (simp; done) | (simp [*]; done)), H', ⟨Nat.le_refl _⟩, ⟨by refine rkt ?_; exact Kd.R_mono (Kd.R_far (p := ⟨gb665, 2, none⟩) (Kd.R_far (p := ⟨gb665, 1, none⟩) (Kd.R_far (p := ⟨gb665, 0, none⟩) (Kd.R_types HO664.out BK665.out (by decide)) (fun _ hk => hk.2) (.int .i64 a0_0)) (fun _ hk => hk.2) (.int .i64 a0_1)) (fun _ hk => hk.2) (.slice Ao18 y662.length co18)) (fun _ hk => trivial)⟩, ⟨bky BK656 NB656_665⟩, ⟨bky BK657 NB657_665⟩, ⟨by refine bkt ?_; refine blk_put (cs := #[.int .i64 a0_0, .int .i64 a0_1, .slice none 0 0]) ?_ 2 _ rfl; refine bkt ?_; refine blk_put (cs := #[.int .i64 a0_0, .int .i64 0, .slice none 0 0]) ?_ 1 _ rfl; refine bkt ?_; refine blk_put (cs := #[.int .i64 0, .int .i64 0, .slice none 0 0]) ?_ 0 _ rfl; refine bkt ?_; exact BK665.out⟩, ⟨hb3 HB GE656 GE657 GE665⟩⟩
   case round =>
    clear H'
    try clear c2
    try clear p2
    try clear c3
    try clear c4
    try clear c5
    try clear c8
    try clear hcz9_0
    try clear hcz9_1
    try clear hcz9_2
    try clear hfz9_0
    try clear hfz9_1
    try clear hfz9_2
    obtain ⟨x7_1, x666000_1, x666001_1, x666002_1, u666002, rfl, HA, HK1, HO_666002, BK656, BK657, BK665, HB⟩ := hrel
    cases gk with
    | zero => exact absurd HA.out (by simp [barscanref31_Turn.l0])
    | succ k1 =>
     have H := HA.out
     clear HA
     simp only [barscanref31_Turn.l0] at H
     replace H := Option.bind_eq_some_iff.mp H
     obtain ⟨t666, A220, H⟩ := H
     replace H : (if x7_1 < t666 then (barscanref31_Turn.l1 k1 a1 x7_1 0 a0_0 a0_1 l0_2 x666000_1 x666001_1 x666002_1 x666001_1 x666000_1 ([] : List Bool)) else (some (x666000_1, x666001_1, x666002_1, 0))) = some (r1, r2, r3, r4) := H
     have A22 := Aside0.mk A220
     clear A220
     by_cases c23 : x7_1 < t666
     ·rw [if_pos c23] at H
      have c23b0 : decide (x7_1 < t666) = true := decide_eq_true c23
      clear c23
      have H' := Aside0.mk H
      clear H
      go_wp2_with (first | ((with_reducible refine gate_callee (f := 58) rfl ?_); refine goesL_ (some 25) rfl rfl Try.func58 (by kernel_rfl) rfl #[.int .i64 a1] rfl mapx ?_; (with_reducible refine (barscanref31_quarters.calls a1 t666 _ A22.out).mono ?_); rintro e w' ⟨rfl, ⟨nd, rfl⟩⟩; refine ⟨_, rfl, ?_⟩; (try (rw [drewN_self wr]; generalize hq_ : World.drewN wr _ = wr; have n0_ : Aside0 (Kd.R Kd.bool 4 wr w.heap.size (fun _ => True) u666002 x666002_1) := ⟨by rw [← hq_]; exact (rkx HO_666002)⟩; have n1_ : Aside0 (wr.heap[gb656]? = some (.cells #[.int .i64 a0_0, .int .i64 a0_1, .slice A0_2 l0_2.length c0_2] 24 (0, 0))) := ⟨by rw [← hq_]; exact (bkx BK656)⟩; have n2_ : Aside0 (wr.heap[gb657]? = some (.cells #[.int .i64 0, .int .i64 0, .slice none 0 0] 24 (0, 0))) := ⟨by rw [← hq_]; exact (bkx BK657)⟩; have n3_ : Aside0 (wr.heap[gb665]? = some (.cells #[.int .i64 x666000_1, .int .i64 x666001_1, u666002] 24 (0, 0))) := ⟨by rw [← hq_]; exact (bkx BK665)⟩; have n4_ : Aside0 (Below w.heap.size w wr) := ⟨by rw [← hq_]; exact (hb3 HB GE656 GE657 GE665)⟩; clear HO_666002 BK656 BK657 BK665 HB hq_; have HO_666002 := n0_; have BK656 := n1_; have BK657 := n2_; have BK665 := n3_; have HB := n4_; clear n0_ n1_ n2_ n3_ n4_)); have hnb24 := NB665_656.out; have hnc24 := NB656_665.out; have hnb25 := NB665_657.out; have hnc25 := NB657_665.out; have hcz26_0 : wr.cell? ⟨gb665, 0, none⟩ = some (.int .i64 x666000_1) := (blk_cell BK665.out 0).trans rfl; have hcz26_1 : wr.cell? ⟨gb665, 1, none⟩ = some (.int .i64 x666001_1) := (blk_cell BK665.out 1).trans rfl; have hcz26_2 : wr.cell? ⟨gb665, 2, none⟩ = some (u666002) := (blk_cell BK665.out 2).trans rfl; have hfz26_0 := blk_frozen BK665.out 0; have hfz26_1 := blk_frozen BK665.out 1; have hfz26_2 := blk_frozen BK665.out 2) | ((with_reducible refine gate_dst (N := 8) rfl ?_); refine box_event ?hg (N := 8) ?hd (cs := #[.int .i64 0, .int .i64 0, .slice none 0 0]) (t := 24) ?hr ?_; (case hd => rfl); (case hg => rfl); (case hr => first | (go_simp; done) | (go_simp; rfl)); intro gb667 hg w27 hbox hb; have n0_ := Aside0.mk (Kd.R_below (rkx HO_666002) hb); have n1_ := Aside0.mk (blk_below (bkx BK656) hb); have n2_ := Aside0.mk (blk_below (bkx BK657) hb); have n3_ := Aside0.mk (blk_below (bkx BK665) hb); have n4_ := Aside0.mk (below_step (hb3 HB GE656 GE657 GE665) hb); have n5_ := Aside0.mk (hbox); have n6_ := Aside0.mk ((by rw [hg]; exact (below_size (hb3 HB GE656 GE657 GE665)) : w.heap.size ≤ gb667)); have n7_ := Aside0.mk ((by rw [hg]; exact (below_size (hb3 HB GE656 GE657 GE665)) : w.heap.size ≤ gb667)); have n8_ := Aside0.mk (nel hg BK656 : gb656 ≠ gb667); have n9_ := Aside0.mk (neg hg BK656 : gb667 ≠ gb656); have n10_ := Aside0.mk (nel hg BK657 : gb657 ≠ gb667); have n11_ := Aside0.mk (neg hg BK657 : gb667 ≠ gb657); have n12_ := Aside0.mk (nel hg BK665 : gb665 ≠ gb667); have n13_ := Aside0.mk (neg hg BK665 : gb667 ≠ gb665); clear HO_666002; clear BK656; clear BK657; clear BK665; clear HB; have HO_666002 := n0_; have BK656 := n1_; have BK657 := n2_; have BK665 := n3_; have HB := n4_; have BK667 := n5_; have GW667 := n6_; have GE667 := n7_; have NB656_667 := n8_; have NB667_656 := n9_; have NB657_667 := n10_; have NB667_657 := n11_; have NB665_667 := n12_; have NB667_665 := n13_; clear n0_ n1_ n2_ n3_ n4_ n5_ n6_ n7_ n8_ n9_ n10_ n11_ n12_ n13_; clear hb hbox hg; have hnb28 := NB667_656.out; have hnc28 := NB656_667.out; have hnb29 := NB667_657.out; have hnc29 := NB657_667.out; have hnb30 := NB667_665.out; have hnc30 := NB665_667.out; have hcz31_0 : w27.cell? ⟨gb667, 0, none⟩ = some (.int .i64 0) := (blk_cell BK667.out 0).trans rfl; have hcz31_1 : w27.cell? ⟨gb667, 1, none⟩ = some (.int .i64 0) := (blk_cell BK667.out 1).trans rfl; have hcz31_2 : w27.cell? ⟨gb667, 2, none⟩ = some (.slice none 0 0) := (blk_cell BK667.out 2).trans rfl; have hfz31_0 := blk_frozen BK667.out 0; have hfz31_1 := blk_frozen BK667.out 1; have hfz31_2 := blk_frozen BK667.out 2))
      go_loopg [9] k1 (fun kq v9 w' => ∃ (x9_2 : Int) (x668002_2 : List Bool) (u668002 : Value), v9 = .int .i64 x9_2 ∧ Aside0 (barscanref31_Turn.l1 kq a1 x7_1 x9_2 a0_0 a0_1 l0_2 x666000_1 x666001_1 x666002_1 x666001_1 x666000_1 x668002_2 = some (r1, r2, r3, r4)) ∧ Aside0 (kq ≤ k1) ∧ Aside0 (Kd.R Kd.bool 4 w' w.heap.size (fun k_ => some k_ ≠ (u668002 : Value).ownBlock) u666002 x666002_1) ∧ Aside0 (Kd.R Kd.bool 4 w' w.heap.size (fun k_ => some k_ ≠ (u666002 : Value).ownBlock) u668002 x668002_2) ∧ Aside0 (w'.heap[gb656]? = some (.cells #[.int .i64 a0_0, .int .i64 a0_1, (.slice A0_2 l0_2.length c0_2)] 24 (0, 0))) ∧ Aside0 (w'.heap[gb657]? = some (.cells #[.int .i64 0, .int .i64 0, (.slice none 0 0)] 24 (0, 0))) ∧ Aside0 (w'.heap[gb665]? = some (.cells #[.int .i64 x666000_1, .int .i64 x666001_1, u666002] 24 (0, 0))) ∧ Aside0 (w'.heap[gb667]? = some (.cells #[.int .i64 x666001_1, .int .i64 x666000_1, u668002] 24 (0, 0))) ∧ Aside0 (Below w.heap.size w w'))
      case atStart => exact ⟨(0), (([] : List Bool)), (.slice none 0 0), (by first | rfl | (simp; done) | (simp [*]; done)), H', ⟨Nat.le_refl _⟩, ⟨by refine rkt ?_; exact Kd.R_mono (Kd.R_far (p := ⟨gb667, 2, none⟩) (Kd.R_far (p := ⟨gb667, 1, none⟩) (Kd.R_far (p := ⟨gb667, 0, none⟩) (Kd.R_types HO_666002.out BK667.out (by decide)) (fun _ hk => hk.2) (.int .i64 x666001_1)) (fun _ hk => hk.2) (.int .i64 x666000_1)) (fun _ hk => hk.2) (.slice none 0 0)) (fun _ hk => (by simp [Value.ownBlock]))⟩, ⟨by first | exact Kd.R_nil _ _ _ _ _ | exact Kd.N_nil _ _ _ _ _ | exact Kd.V_nil _ _ _ _ _ | exact Kd.Q_nil _ _ _ _ _ | exact Kd.S_nil _ _ _ _ _⟩, ⟨bky BK656 NB656_667⟩, ⟨bky BK657 NB657_667⟩, ⟨bky BK665 NB665_667⟩, ⟨by refine bkt ?_; refine blk_put (cs := #[.int .i64 x666001_1, .int .i64 x666000_1, .slice none 0 0]) ?_ 2 _ rfl; refine bkt ?_; refine blk_put (cs := #[.int .i64 x666001_1, .int .i64 0, .slice none 0 0]) ?_ 1 _ rfl; refine bkt ?_; refine blk_put (cs := #[.int .i64 0, .int .i64 0, .slice none 0 0]) ?_ 0 _ rfl; refine bkt ?_; exact BK667.out⟩, ⟨hb4 HB GE656 GE657 GE665 GE667⟩⟩
      case round =>
       clear H'
       try clear c2
       try clear p2
       try clear c3
       try clear c4
       try clear c5
       try clear c8
       try clear c23
       try clear c23b0
       try clear c24
       try clear c25
       try clear c26
       try clear c28
       try clear c29
       try clear c30
       try clear hcz26_0
       try clear hcz26_1
       try clear hcz26_2
       try clear hcz31_0
       try clear hcz31_1
       try clear hcz31_2
       try clear hcz9_0
       try clear hcz9_1
       try clear hcz9_2
       try clear hfz26_0
       try clear hfz26_1
       try clear hfz26_2
       try clear hfz31_0
       try clear hfz31_1
       try clear hfz31_2
       try clear hfz9_0
       try clear hfz9_1
       try clear hfz9_2
       try clear p2
       obtain ⟨x9_2, x668002_2, u668002, rfl, HA, HK2, HO_666002, HO_668002, BK656, BK657, BK665, BK667, HB⟩ := hrel
       cases gk with
       | zero => exact absurd HA.out (by simp [barscanref31_Turn.l1])
       | succ k2 =>
        have H := HA.out
        clear HA
        simp only [barscanref31_Turn.l1] at H
        by_cases c32 : x9_2 < (l0_2.length : Int)
        ·rw [if_pos c32] at H
         have c32b0 : decide (x9_2 < (l0_2.length : Int)) = true := decide_eq_true c32
         clear c32
         replace H := Option.bind_eq_some_iff.mp H
         obtain ⟨t668, A330, H⟩ := H
         replace H : (if 0 ≤ t668 then (if t668 < (x666002_1.length : Int) then (if x668002_2.length < 140737488355328 then (barscanref31_Turn.l1 k2 a1 x7_1 (wrap64 (x9_2 + 1)) a0_0 a0_1 l0_2 x666000_1 x666001_1 x666002_1 x666001_1 x666000_1 (x668002_2 ++ [rdOf false x666002_1 t668])) else (none)) else (none)) else (none)) = some (r1, r2, r3, r4) := H
         have A33 := Aside0.mk A330
         clear A330
         by_cases c34 : 0 ≤ t668
         ·rw [if_pos c34] at H
          have c34b0 : decide (0 ≤ t668) = true := decide_eq_true c34
          clear c34
          by_cases c35 : t668 < (x666002_1.length : Int)
          ·rw [if_pos c35] at H
           have c35b0 : decide (t668 < (x666002_1.length : Int)) = true := decide_eq_true c35
           clear c35
           by_cases c36 : x668002_2.length < 140737488355328
           ·rw [if_pos c36] at H
            have LMc36 := Aside0.mk c36
            clear c36
            obtain ⟨y670, hy670⟩ : ∃ y_ : List Bool, y_ = (x668002_2 ++ [rdOf false x666002_1 t668]) := ⟨_, rfl⟩
            replace H : (barscanref31_Turn.l1 k2 a1 x7_1 (wrap64 (x9_2 + 1)) a0_0 a0_1 l0_2 x666000_1 x666001_1 x666002_1 x666001_1 x666000_1 y670) = some (r1, r2, r3, r4) := by first | (rw [hy670]; with_reducible exact H) | (have H2_ := (Option.bind_some _ _).symm.trans H; rw [hy670]; with_reducible exact H2_) | (have H2_ := (Option.bind_some _ _).symm.trans H; with_reducible exact H2_) | with_reducible exact H | (rw [hy670]; exact H) | exact H
            have Ny670 := Aside0.mk hy670
            clear hy670
            have H' := Aside0.mk H
            clear H
            have hnb37 := NB656_657.out
            have hnc37 := NB657_656.out
            have hnb38 := NB656_665.out
            have hnc38 := NB665_656.out
            have hnb39 := NB656_667.out
            have hnc39 := NB667_656.out
            have hcz40_0 : wr.cell? ⟨gb656, 0, none⟩ = some (.int .i64 a0_0) := (blk_cell BK656.out 0).trans rfl
            have hcz40_1 : wr.cell? ⟨gb656, 1, none⟩ = some (.int .i64 a0_1) := (blk_cell BK656.out 1).trans rfl
            have hcz40_2 : wr.cell? ⟨gb656, 2, none⟩ = some (.slice A0_2 l0_2.length c0_2) := (blk_cell BK656.out 2).trans rfl
            have hfz40_0 := blk_frozen BK656.out 0
            have hfz40_1 := blk_frozen BK656.out 1
            have hfz40_2 := blk_frozen BK656.out 2
            try go_wp2
            have n0_ := Aside0.mk (Kd.R_drew HO_666002.out)
            have n1_ := Aside0.mk (Kd.R_drew HO_668002.out)
            have n2_ := Aside0.mk (blk_drew BK656.out)
            have n3_ := Aside0.mk (blk_drew BK657.out)
            have n4_ := Aside0.mk (blk_drew BK665.out)
            have n5_ := Aside0.mk (blk_drew BK667.out)
            have n6_ := Aside0.mk (below_drew1 HB.out)
            clear HO_666002
            clear HO_668002
            clear BK656
            clear BK657
            clear BK665
            clear BK667
            clear HB
            have HO_666002 := n0_
            have HO_668002 := n1_
            have BK656 := n2_
            have BK657 := n3_
            have BK665 := n4_
            have BK667 := n5_
            have HB := n6_
            clear n0_ n1_ n2_ n3_ n4_ n5_ n6_
            obtain ⟨Ao42, co42, eo42⟩ := Kd.R_slice HO_666002.out
            (first | subst eo42 | (injection eo42 with f1_ f2_ f3_; have f4_ := f1_.symm; have f5_ := f3_.symm; clear f1_ f2_ f3_; subst f4_; subst f5_))
            have p669 : 0 ≤ (t668 : Int) := of_decide_eq_true (by first | (with_reducible assumption) | assumption)
            have q669 : t668 < (x666002_1.length : Int) := of_decide_eq_true (by first | (with_reducible assumption) | assumption)
            obtain ⟨ad669, e669, hx669_0⟩ := Kd.at_bool (Kd.R_reads' HO_666002.out).2.2 t668 p669 q669
            cases e669
            replace p669 := eq_true p669
            replace q669 := eq_true q669
            refine start_ (n := 16) (S := fun w' => w'.cell? ⟨gb667, 0, none⟩ = some (.int .i64 x666001_1) ∧ w'.cell? ⟨gb667, 1, none⟩ = some (.int .i64 x666000_1) ∧ w'.cell? ⟨gb667, 2, none⟩ = some (u668002) ∧ w'.cell? ⟨gb665, 0, none⟩ = some (.int .i64 x666000_1) ∧ w'.cell? ⟨gb665, 1, none⟩ = some (.int .i64 x666001_1) ∧ w'.cell? ⟨gb665, 2, none⟩ = some (.slice (some ad669) x666002_1.length co42) ∧ w'.cell? (ad669.add (t668).toNat) = some (.bool (rdOf false x666002_1 t668))) (ds := [13, 15]) #[false, false, false, false, false, false, false, false, false, false, false, false, false, false, false, false] (by kernel_rfl) rfl rfl ⟨(blk_cell BK667.out 0).trans rfl, (blk_cell BK667.out 1).trans rfl, (blk_cell BK667.out 2).trans rfl, (blk_cell BK665.out 0).trans rfl, (blk_cell BK665.out 1).trans rfl, (blk_cell BK665.out 2).trans rfl, hx669_0⟩ (fun hHeld => ?_); refine with_tabW barscanref31_Turn.tab11 barscanref31_Turn.bits11 (fun HT_ HW_ => ?_)
            generalize wr.drew = w41 at HO_666002 HO_668002 BK656 BK657 BK665 BK667 HB hx669_0 hHeld ⊢
            refine pure_ (i := 0) (N := some 41) (v := ?_) (a' := ?_) #[true, false, false, false, false, false, false, false, false, false, false, false, false, false, false, false] rfl rfl (any_of HT_.out (by kernel_rfl)) (fun _ _ _ h => h) (Or.inl ⟨by rfl, ?_⟩) ?_ ?_
            rotate_left
            ·intro w'
             go_simp
             with_reducible rfl
            rotate_left
            ·simp only [Act.put, List.setIfInBounds_toArray, List.set_cons_zero, List.set_cons_succ, i64_w, i32_w]
             rfl
            refine pure_ (i := 2) (N := some 43) (v := ?_) (a' := ?_) #[true, false, true, false, false, false, false, false, false, false, false, false, false, false, false, false] rfl rfl (any_of HT_.out (by kernel_rfl)) (fun _ _ _ h => h) (Or.inl ⟨by rfl, ?_⟩) ?_ ?_
            rotate_left
            ·intro w'
             go_simp
             with_reducible rfl
            rotate_left
            ·simp only [Act.put, List.setIfInBounds_toArray, List.set_cons_zero, List.set_cons_succ, i64_w, i32_w]
             rfl
            refine pure_ (i := 4) (N := some 45) (v := ?_) (a' := ?_) #[true, false, true, false, true, false, false, false, false, false, false, false, false, false, false, false] rfl rfl (any_of HT_.out (by kernel_rfl)) (fun _ _ _ h => h) (Or.inl ⟨by rfl, ?_⟩) ?_ ?_
            rotate_left
            ·intro w'
             go_simp
             with_reducible rfl
            rotate_left
            ·simp only [Act.put, List.setIfInBounds_toArray, List.set_cons_zero, List.set_cons_succ, i64_w, i32_w]
             rfl
            refine pure_ (i := 6) (N := some 47) (v := ?_) (a' := ?_) #[true, false, true, false, true, false, true, false, false, false, false, false, false, false, false, false] rfl rfl (any_of HT_.out (by kernel_rfl)) (fun _ _ _ h => h) (Or.inl ⟨by rfl, ?_⟩) ?_ ?_
            rotate_left
            ·intro w'
             go_simp
             with_reducible rfl
            rotate_left
            ·simp only [Act.put, List.setIfInBounds_toArray, List.set_cons_zero, List.set_cons_succ, i64_w, i32_w]
             rfl
            refine pure_ (i := 8) (N := some 49) (v := ?_) (a' := ?_) #[true, false, true, false, true, false, true, false, true, false, false, false, false, false, false, false] rfl rfl (any_of HT_.out (by kernel_rfl)) (fun _ _ _ h => h) (Or.inl ⟨by rfl, ?_⟩) ?_ ?_
            rotate_left
            ·intro w'
             go_simp
             with_reducible rfl
            rotate_left
            ·simp only [Act.put, List.setIfInBounds_toArray, List.set_cons_zero, List.set_cons_succ, i64_w, i32_w]
             rfl
            refine take_ (i := 1) (N := some 42) (v := ?_) (a' := ?_) #[true, true, true, false, true, false, true, false, true, false, false, false, false, false, false, false] rfl rfl (take_ofW HT_.out HW_.out (by kernel_rfl)) (fun _ _ _ h => h) (Or.inl ⟨by rfl, ?_⟩) hHeld ?_ ?_
            rotate_left
            ·rintro w' ⟨s0, s1, s2, s3, s4, s5, s6⟩
             go_simp
             with_reducible rfl
            rotate_left
            ·simp only [Act.put, List.setIfInBounds_toArray, List.set_cons_zero, List.set_cons_succ, i64_w, i32_w]
             rfl
            refine take_ (i := 3) (N := some 44) (v := ?_) (a' := ?_) #[true, true, true, true, true, false, true, false, true, false, false, false, false, false, false, false] rfl rfl (take_ofW HT_.out HW_.out (by kernel_rfl)) (fun _ _ _ h => h) (Or.inl ⟨by rfl, ?_⟩) hHeld ?_ ?_
            rotate_left
            ·rintro w' ⟨s0, s1, s2, s3, s4, s5, s6⟩
             go_simp
             with_reducible rfl
            rotate_left
            ·simp only [Act.put, List.setIfInBounds_toArray, List.set_cons_zero, List.set_cons_succ, i64_w, i32_w]
             rfl
            refine take_ (i := 5) (N := some 46) (v := ?_) (a' := ?_) #[true, true, true, true, true, true, true, false, true, false, false, false, false, false, false, false] rfl rfl (take_ofW HT_.out HW_.out (by kernel_rfl)) (fun _ _ _ h => h) (Or.inl ⟨by rfl, ?_⟩) hHeld ?_ ?_
            rotate_left
            ·rintro w' ⟨s0, s1, s2, s3, s4, s5, s6⟩
             go_simp
             with_reducible rfl
            rotate_left
            ·simp only [Act.put, List.setIfInBounds_toArray, List.set_cons_zero, List.set_cons_succ, i64_w, i32_w]
             rfl
            refine take_ (i := 7) (N := some 48) (v := ?_) (a' := ?_) #[true, true, true, true, true, true, true, true, true, false, false, false, false, false, false, false] rfl rfl (take_ofW HT_.out HW_.out (by kernel_rfl)) (fun _ _ _ h => h) (Or.inl ⟨by rfl, ?_⟩) hHeld ?_ ?_
            rotate_left
            ·rintro w' ⟨s0, s1, s2, s3, s4, s5, s6⟩
             go_simp
             with_reducible rfl
            rotate_left
            ·simp only [Act.put, List.setIfInBounds_toArray, List.set_cons_zero, List.set_cons_succ, i64_w, i32_w]
             rfl
            refine one_ (i := 9) (N := some 50) #[true, true, true, true, true, true, true, true, true, true, false, false, false, false, false, false] rfl rfl (one_of HT_.out (by kernel_rfl)) (by decide) (fun K hK => ?_)
            refine goes_ Try.func59 (by kernel_rfl) rfl #[.int .i64 x666000_1, .int .i64 x666001_1, .int .i64 x9_2] (by rfl) rfl rfl mapx ?_
            with_reducible refine (barscanref31_turned.calls x666000_1 x666001_1 x9_2 t668 _ A33.out).mono ?_
            rintro e w' ⟨rfl, ⟨nd, rfl⟩⟩
            refine ⟨_, rfl, ?_⟩
            refine hK.out _ _ ⟨(blk_cell BK667.out 0).trans rfl, (blk_cell BK667.out 1).trans rfl, (blk_cell BK667.out 2).trans rfl, (blk_cell BK665.out 0).trans rfl, (blk_cell BK665.out 1).trans rfl, (blk_cell BK665.out 2).trans rfl, hHeld.2.2.2.2.2.2⟩ (fun hHeld => ?_)
            clear hK K
            refine norm_ (a' := ?_) ?_ ?_
            rotate_left
            ·show Act.put _ (some 50) _ = _
             simp only [Act.put, List.setIfInBounds_toArray, List.set_cons_zero, List.set_cons_succ, i64_w, i32_w]
             rfl
            refine pure_ (i := 10) (N := some 51) (v := ?_) (a' := ?_) #[true, true, true, true, true, true, true, true, true, true, true, false, false, false, false, false] rfl rfl (any_of HT_.out (by kernel_rfl)) (fun _ _ _ h => h) (Or.inl ⟨by rfl, ?_⟩) ?_ ?_
            rotate_left
            ·intro w'
             go_simp
             with_reducible rfl
            rotate_left
            ·simp only [Act.put, List.setIfInBounds_toArray, List.set_cons_zero, List.set_cons_succ, i64_w, i32_w]
             rfl
            refine take_ (i := 11) (N := some 52) (v := ?_) (a' := ?_) #[true, true, true, true, true, true, true, true, true, true, true, true, false, false, false, false] rfl rfl (take_ofW HT_.out HW_.out (by kernel_rfl)) (fun _ _ _ h => h) (Or.inl ⟨by rfl, ?_⟩) hHeld ?_ ?_
            rotate_left
            ·rintro w' ⟨s0, s1, s2, s3, s4, s5, s6⟩
             go_simp
             with_reducible rfl
            rotate_left
            ·simp only [Act.put, List.setIfInBounds_toArray, List.set_cons_zero, List.set_cons_succ, i64_w, i32_w]
             rfl
            refine one_ (i := 12) (N := some 53) #[true, true, true, true, true, true, true, true, true, true, true, true, true, false, false, false] rfl rfl (one_of HT_.out (by kernel_rfl)) (by decide) (fun K hK => ?_)
            refine value_ (w1 := ?_) (v := ?_) (by rfl) rfl ?_ ?_
            rotate_left 2
            ·go_simp
             constructor
             ·rfl
             ·rfl
            refine hK.out _ _ ⟨(blk_cell (blk_alloc BK667.out _) 0).trans rfl, (blk_cell (blk_alloc BK667.out _) 1).trans rfl, (blk_cell (blk_alloc BK667.out _) 2).trans rfl, (blk_cell (blk_alloc BK665.out _) 0).trans rfl, (blk_cell (blk_alloc BK665.out _) 1).trans rfl, (blk_cell (blk_alloc BK665.out _) 2).trans rfl, (World.cell?_alloc_lt _ _ _ (World.block_lt_of_cell? _ _ (hHeld.2.2.2.2.2.2))).trans (hHeld.2.2.2.2.2.2)⟩ (fun hHeld => ?_)
            clear hK K
            refine norm_ (a' := ?_) ?_ ?_
            rotate_left
            ·show Act.put _ (some 53) _ = _
             simp only [Act.put, List.setIfInBounds_toArray, List.set_cons_zero, List.set_cons_succ, i64_w, i32_w]
             rfl
            refine last_ (i := 13) (N := some 54) #[true, true, true, true, true, true, true, true, true, true, true, true, true, true, false, false] rfl rfl (one_of HT_.out (by kernel_rfl)) (by decide) (fun K hK => ?_)
            refine Kd.R_append_step Kd.bool (w0 := w) w.heap.size (by rfl) (.tmp 42) (.tmp 53) 22 4 (.bool false) 1 rfl Try.underlying22 info4 rfl (by decide) (by omega) u668002 x668002_2 (rdOf false x666002_1 t668) [.bool (rdOf false x666002_1 t668)] (fun k_ => some k_ ≠ (.slice (some ad669) x666002_1.length co42 : Value).ownBlock) (fun _ => False) rfl rfl ?aP (fun _ hk => hk.elim) ?aF ?aO ?aB ?aS ?aL ?_
            (case aP => exact rfl)
            (case aB => exact (hb4 HB GE656 GE657 GE665 GE667))
            (case aF => exact (fun k_ hk => Kd.fresh' (Kd.R_lt (rkx HO_666002)) k_ hk))
            (case aO => exact (rkx HO_668002))
            (case aS => exact (below_size (hb4 HB GE656 GE657 GE665 GE667)))
            (case aL => have := LMc36.out; omega)
            intro v671 w43 ho hb hg hat
            rw [← Ny670.out] at ho
            have n0_ := Aside0.mk (Kd.R_after (ok := (fun _ => True)) (by refine rkt ?_; exact Kd.R_mono HO_666002.out (fun _ hk => ⟨trivial, hk⟩)) hg hat)
            have n1_ := Aside0.mk (blk_grown (g := gb656) (o := .cells #[.int .i64 a0_0, .int .i64 a0_1, .slice A0_2 l0_2.length c0_2] 24 (0, 0)) (bkx BK656) hg (Kd.R_ne HO_668002.out BK656.out (by decide)))
            have n2_ := Aside0.mk (blk_grown (g := gb657) (o := .cells #[.int .i64 0, .int .i64 0, .slice none 0 0] 24 (0, 0)) (bkx BK657) hg (Kd.R_ne HO_668002.out BK657.out (by decide)))
            have n3_ := Aside0.mk (blk_grown (g := gb665) (o := .cells #[.int .i64 x666000_1, .int .i64 x666001_1, .slice (some ad669) x666002_1.length co42] 24 (0, 0)) (bkx BK665) hg (Kd.R_ne HO_668002.out BK665.out (by decide)))
            have n4_ := Aside0.mk (blk_grown (g := gb667) (o := .cells #[.int .i64 x666001_1, .int .i64 x666000_1, u668002] 24 (0, 0)) (bkx BK667) hg (Kd.R_ne HO_668002.out BK667.out (by decide)))
            have n5_ := Aside0.mk (hb)
            have n6_ := Aside0.mk (ho)
            clear HO_666002
            clear BK656
            clear BK657
            clear BK665
            clear BK667
            clear HB
            clear HO_668002
            have HO_666002 := n0_
            have BK656 := n1_
            have BK657 := n2_
            have BK665 := n3_
            have BK667 := n4_
            have HB := n5_
            have HO672 := n6_
            clear n0_ n1_ n2_ n3_ n4_ n5_ n6_
            clear ho hb hg hat
            obtain ⟨Ao44, co44, eo44⟩ := Kd.R_slice HO672.out
            (first | subst eo44 | (injection eo44 with f1_ f2_ f3_; have f4_ := f1_.symm; have f5_ := f3_.symm; clear f1_ f2_ f3_; subst f4_; subst f5_))
            refine hK.out _ _ ?_
            clear hK K
            refine norm_ (a' := ?_) ?_ ?_
            rotate_left
            ·show Act.put _ (some 54) _ = _
             simp only [Act.put, List.setIfInBounds_toArray, List.set_cons_zero, List.set_cons_succ, i64_w, i32_w]
             rfl
            refine pure_ (i := 14) (N := some 55) (v := ?_) (a' := ?_) #[true, true, true, true, true, true, true, true, true, true, true, true, true, true, true, false] rfl rfl (any_of HT_.out (by kernel_rfl)) (fun _ _ _ h => h) (Or.inl ⟨by rfl, ?_⟩) ?_ ?_
            rotate_left
            ·intro w'
             go_simp
             with_reducible rfl
            rotate_left
            ·simp only [Act.put, List.setIfInBounds_toArray, List.set_cons_zero, List.set_cons_succ, i64_w, i32_w]
             rfl
            refine last_ (i := 15) (N := none) #[true, true, true, true, true, true, true, true, true, true, true, true, true, true, true, true] rfl rfl (one_of HT_.out (by kernel_rfl)) (by decide) (fun K hK => ?_)
            have hs45 : w43.cell? ⟨gb667, 2, none⟩ = some (u668002) := (blk_cell BK667.out 2).trans rfl
            have hfs45 := blk_frozen BK667.out 2
            have hns45_0 := NB656_667.out
            have hns45_1 := NB657_667.out
            have hns45_2 := NB665_667.out
            have hms45_0 := NB667_656.out
            have hms45_1 := NB667_657.out
            have hms45_2 := NB667_665.out
            refine skip_ (w1 := ?_) (by rfl) rfl ?_ ?_
            rotate_left
            ·go_simp
             rfl
            refine hK.out _ _ ?_
            clear hK K
            refine done_ (done_of HT_.out (by kernel_rfl)) ?_
            try go_wp2
            go_roundg k2
            case measure => have := HK1.out; have := HK2.out; omega
            case rel => exact ⟨(wrap64 (x9_2 + 1)), (y670), (.slice Ao44 y670.length co44), (by first | rfl | (simp; done) | (simp [*]; done)), H', ⟨by have := HK1.out; have := HK2.out; omega⟩, ⟨by refine rkt ?_; exact Kd.R_mono (Kd.R_far (p := ⟨gb667, 2, none⟩) (Kd.R_types HO_666002.out BK667.out (by decide)) (fun _ hk => hk.2) (.slice Ao44 y670.length co44)) (fun _ hk => hk.1.2)⟩, ⟨by refine rkt ?_; exact Kd.R_mono (Kd.R_far (p := ⟨gb667, 2, none⟩) (Kd.R_types HO672.out BK667.out (by decide)) (fun _ hk => hk.2) (.slice Ao44 y670.length co44)) (fun _ hk => hk.1)⟩, ⟨bky BK656 NB656_667⟩, ⟨bky BK657 NB657_667⟩, ⟨bky BK665 NB665_667⟩, ⟨by refine bkt ?_; refine blk_put (cs := #[.int .i64 x666001_1, .int .i64 x666000_1, u668002]) ?_ 2 _ rfl; refine bkt ?_; exact BK667.out⟩, ⟨hb4 HB GE656 GE657 GE665 GE667⟩⟩
           ·rw [if_neg c36] at H
            exact absurd H (by simp)
          ·rw [if_neg c35] at H
           exact absurd H (by simp)
         ·rw [if_neg c34] at H
          exact absurd H (by simp)
        ·rw [if_neg c32] at H
         have c32b0 : decide (x9_2 < (l0_2.length : Int)) = false := decide_eq_false c32
         clear c32
         have H' := Aside0.mk H
         clear H
         have hnb46 := NB656_657.out
         have hnc46 := NB657_656.out
         have hnb47 := NB656_665.out
         have hnc47 := NB665_656.out
         have hnb48 := NB656_667.out
         have hnc48 := NB667_656.out
         have hcz49_0 : wr.cell? ⟨gb656, 0, none⟩ = some (.int .i64 a0_0) := (blk_cell BK656.out 0).trans rfl
         have hcz49_1 : wr.cell? ⟨gb656, 1, none⟩ = some (.int .i64 a0_1) := (blk_cell BK656.out 1).trans rfl
         have hcz49_2 : wr.cell? ⟨gb656, 2, none⟩ = some (.slice A0_2 l0_2.length c0_2) := (blk_cell BK656.out 2).trans rfl
         have hfz49_0 := blk_frozen BK656.out 0
         have hfz49_1 := blk_frozen BK656.out 1
         have hfz49_2 := blk_frozen BK656.out 2
         have hnb50 := NB667_657.out
         have hnc50 := NB657_667.out
         have hnb51 := NB667_665.out
         have hnc51 := NB665_667.out
         have hcz52_0 : wr.cell? ⟨gb667, 0, none⟩ = some (.int .i64 x666001_1) := (blk_cell BK667.out 0).trans rfl
         have hcz52_1 : wr.cell? ⟨gb667, 1, none⟩ = some (.int .i64 x666000_1) := (blk_cell BK667.out 1).trans rfl
         have hcz52_2 : wr.cell? ⟨gb667, 2, none⟩ = some (u668002) := (blk_cell BK667.out 2).trans rfl
         have hfz52_0 := blk_frozen BK667.out 0
         have hfz52_1 := blk_frozen BK667.out 1
         have hfz52_2 := blk_frozen BK667.out 2
         have hnb53 := NB665_657.out
         have hnc53 := NB657_665.out
         have hcz54_0 : wr.cell? ⟨gb665, 0, none⟩ = some (.int .i64 x666000_1) := (blk_cell BK665.out 0).trans rfl
         have hcz54_1 : wr.cell? ⟨gb665, 1, none⟩ = some (.int .i64 x666001_1) := (blk_cell BK665.out 1).trans rfl
         have hcz54_2 : wr.cell? ⟨gb665, 2, none⟩ = some (u666002) := (blk_cell BK665.out 2).trans rfl
         have hfz54_0 := blk_frozen BK665.out 0
         have hfz54_1 := blk_frozen BK665.out 1
         have hfz54_2 := blk_frozen BK665.out 2
         obtain ⟨Ao55, co55, eo55⟩ := Kd.R_slice HO_668002.out
         subst eo55
         go_wp2
         go_roundg k2
         case measure => have := HK1.out; have := HK2.out; omega
         case rel => exact ⟨(wrap64 (x7_1 + 1)), (x666001_1), (x666000_1), (x668002_2), (.slice Ao55 x668002_2.length co55), (by first | rfl | (simp; done) | (simp [*]; done)), H', ⟨by have := HK1.out; have := HK2.out; omega⟩, ⟨by refine rkt ?_; exact Kd.R_mono (Kd.R_far (p := ⟨gb665, 2, none⟩) (Kd.R_far (p := ⟨gb665, 1, none⟩) (Kd.R_far (p := ⟨gb665, 0, none⟩) (Kd.R_types HO_668002.out BK665.out (by decide)) (fun _ hk => hk.2) (.int .i64 x666001_1)) (fun _ hk => hk.2) (.int .i64 x666000_1)) (fun _ hk => hk.2) (.slice Ao55 x668002_2.length co55)) (fun _ hk => trivial)⟩, ⟨bky BK656 NB656_665⟩, ⟨bky BK657 NB657_665⟩, ⟨by refine bkt ?_; refine blk_put (cs := #[.int .i64 x666001_1, .int .i64 x666000_1, u666002]) ?_ 2 _ rfl; refine bkt ?_; refine blk_put (cs := #[.int .i64 x666001_1, .int .i64 x666001_1, u666002]) ?_ 1 _ rfl; refine bkt ?_; refine blk_put (cs := #[.int .i64 x666000_1, .int .i64 x666001_1, u666002]) ?_ 0 _ rfl; refine bkt ?_; exact BK665.out⟩, ⟨hb4 HB GE656 GE657 GE665 GE667⟩⟩
     ·rw [if_neg c23] at H
      have c23b0 : decide (x7_1 < t666) = false := decide_eq_false c23
      clear c23
      simp only [Option.some.injEq, Prod.mk.injEq] at H
      obtain ⟨rfl, rfl, rfl, rfl⟩ := H
      go_wp2_with (first | ((with_reducible refine gate_callee (f := 58) rfl ?_); refine goesL_ (some 25) rfl rfl Try.func58 (by kernel_rfl) rfl #[.int .i64 a1] rfl mapx ?_; (with_reducible refine (barscanref31_quarters.calls a1 t666 _ A22.out).mono ?_); rintro e w' ⟨rfl, ⟨nd, rfl⟩⟩; refine ⟨_, rfl, ?_⟩; (try (rw [drewN_self wr]; generalize hq_ : World.drewN wr _ = wr; have n0_ : Aside0 (Kd.R Kd.bool 4 wr w.heap.size (fun _ => True) u666002 x666002_1) := ⟨by rw [← hq_]; exact (rkx HO_666002)⟩; have n1_ : Aside0 (wr.heap[gb656]? = some (.cells #[.int .i64 a0_0, .int .i64 a0_1, .slice A0_2 l0_2.length c0_2] 24 (0, 0))) := ⟨by rw [← hq_]; exact (bkx BK656)⟩; have n2_ : Aside0 (wr.heap[gb657]? = some (.cells #[.int .i64 0, .int .i64 0, .slice none 0 0] 24 (0, 0))) := ⟨by rw [← hq_]; exact (bkx BK657)⟩; have n3_ : Aside0 (wr.heap[gb665]? = some (.cells #[.int .i64 x666000_1, .int .i64 x666001_1, u666002] 24 (0, 0))) := ⟨by rw [← hq_]; exact (bkx BK665)⟩; have n4_ : Aside0 (Below w.heap.size w wr) := ⟨by rw [← hq_]; exact (hb3 HB GE656 GE657 GE665)⟩; clear HO_666002 BK656 BK657 BK665 HB hq_; have HO_666002 := n0_; have BK656 := n1_; have BK657 := n2_; have BK665 := n3_; have HB := n4_; clear n0_ n1_ n2_ n3_ n4_)); have hnb56 := NB665_656.out; have hnc56 := NB656_665.out; have hnb57 := NB665_657.out; have hnc57 := NB657_665.out; have hcz58_0 : wr.cell? ⟨gb665, 0, none⟩ = some (.int .i64 x666000_1) := (blk_cell BK665.out 0).trans rfl; have hcz58_1 : wr.cell? ⟨gb665, 1, none⟩ = some (.int .i64 x666001_1) := (blk_cell BK665.out 1).trans rfl; have hcz58_2 : wr.cell? ⟨gb665, 2, none⟩ = some (u666002) := (blk_cell BK665.out 2).trans rfl; have hfz58_0 := blk_frozen BK665.out 0; have hfz58_1 := blk_frozen BK665.out 1; have hfz58_2 := blk_frozen BK665.out 2; have hnb59 := NB657_656.out; have hnc59 := NB656_657.out; have hcz60_0 : wr.cell? ⟨gb657, 0, none⟩ = some (.int .i64 0) := (blk_cell BK657.out 0).trans rfl; have hcz60_1 : wr.cell? ⟨gb657, 1, none⟩ = some (.int .i64 0) := (blk_cell BK657.out 1).trans rfl; have hcz60_2 : wr.cell? ⟨gb657, 2, none⟩ = some (.slice none 0 0) := (blk_cell BK657.out 2).trans rfl; have hfz60_0 := blk_frozen BK657.out 0; have hfz60_1 := blk_frozen BK657.out 1; have hfz60_2 := blk_frozen BK657.out 2; obtain ⟨Ao61, co61, eo61⟩ := Kd.R_slice HO_666002.out; subst eo61))
      refine bodyPost_ret (results_ct rfl _ _ gb657 24 #[.int .i64 x666000_1, .int .i64 x666001_1, .slice Ao61 x666002_1.length co61] (0, 0) _ rfl (by refine bkt ?_; refine blk_put (cs := #[.int .i64 x666000_1, .int .i64 x666001_1, .slice none 0 0]) ?_ 2 _ rfl; refine bkt ?_; refine blk_put (cs := #[.int .i64 x666000_1, .int .i64 0, .slice none 0 0]) ?_ 1 _ rfl; refine bkt ?_; refine blk_put (cs := #[.int .i64 0, .int .i64 0, .slice none 0 0]) ?_ 0 _ rfl; refine bkt ?_; exact BK657.out) Try.underlying24 rfl (by kernel_rfl)) rfl ?_
      exact ⟨_, by first | rfl | (simp [errW_none, errW_some] <;> rfl) | (simp [*, errW_none, errW_some] <;> rfl), by refine rkt ?_; exact Kd.R_mono (Kd.R_far (p := ⟨gb657, 2, none⟩) (Kd.R_far (p := ⟨gb657, 1, none⟩) (Kd.R_far (p := ⟨gb657, 0, none⟩) (Kd.R_types HO_666002.out BK657.out (by decide)) (fun _ hk => hk.2) (.int .i64 x666000_1)) (fun _ hk => hk.2) (.int .i64 x666001_1)) (fun _ hk => hk.2) (.slice Ao61 x666002_1.length co61)) (fun _ hk => trivial), by repeat (first | (with_reducible first | exact HB.out | apply below_alloc | apply pw_below_drewN | apply below_drew1 | refine below_set ?_ GE656.out | refine below_set ?_ GE657.out | refine below_set ?_ GE665.out) | exact HB.out)⟩
  ·rw [if_neg c5] at H
   exact absurd H (by simp)
 ·replace c4 := Bool.eq_false_iff.mpr c4
  subst c4
  have H1 : (some (0, 0, ([] : List Bool), 1)) = some (r1, r2, r3, r4) := by rw [if_neg (show ¬ (false = true) by decide)] at H; exact H
  clear H
  have H := H1
  clear H1
  simp only [Option.some.injEq, Prod.mk.injEq] at H
  obtain ⟨rfl, rfl, rfl, rfl⟩ := H
  go_enter Try.func39, Try.ntmps39
  go_wp2_with (first | ((with_reducible refine gate_dst (N := 2) rfl ?_); refine box_event ?hg (N := 2) ?hd (cs := #[.int .i64 a0_0, .int .i64 a0_1, .slice A0_2 l0_2.length c0_2]) (t := 24) ?hr ?_; (case hd => rfl); (case hg => rfl); (case hr => first | (go_simp; done) | (go_simp; rfl)); intro gb656 hg w62 hbox hb; have n0_ := Aside0.mk (below_step (hb0 HB) hb); have n1_ := Aside0.mk (hbox); have n2_ := Aside0.mk ((by rw [hg]; exact (below_size (hb0 HB)) : w.heap.size ≤ gb656)); have n3_ := Aside0.mk ((by rw [hg]; exact (below_size (hb0 HB)) : w.heap.size ≤ gb656)); clear HB; have HB := n0_; have BK656 := n1_; have GW656 := n2_; have GE656 := n3_; clear n0_ n1_ n2_ n3_; clear hb hbox hg) | ((with_reducible refine gate_dst (N := 4) rfl ?_); refine box_event ?hg (N := 4) ?hd (cs := #[.int .i64 0, .int .i64 0, .slice none 0 0]) (t := 24) ?hr ?_; (case hd => rfl); (case hg => rfl); (case hr => first | (go_simp; done) | (go_simp; rfl)); intro gb657 hg w63 hbox hb; have n0_ := Aside0.mk (blk_below (bkx BK656) hb); have n1_ := Aside0.mk (below_step (hb1 HB GE656) hb); have n2_ := Aside0.mk (hbox); have n3_ := Aside0.mk ((by rw [hg]; exact (below_size (hb1 HB GE656)) : w.heap.size ≤ gb657)); have n4_ := Aside0.mk ((by rw [hg]; exact (below_size (hb1 HB GE656)) : w.heap.size ≤ gb657)); have n5_ := Aside0.mk (nel hg BK656 : gb656 ≠ gb657); have n6_ := Aside0.mk (neg hg BK656 : gb657 ≠ gb656); clear BK656; clear HB; have BK656 := n0_; have HB := n1_; have BK657 := n2_; have GW657 := n3_; have GE657 := n4_; have NB656_657 := n5_; have NB657_656 := n6_; clear n0_ n1_ n2_ n3_ n4_ n5_ n6_; clear hb hbox hg; have hnb64 := NB656_657.out; have hnc64 := NB657_656.out; have hcz65_0 : w63.cell? ⟨gb656, 0, none⟩ = some (.int .i64 a0_0) := (blk_cell BK656.out 0).trans rfl; have hcz65_1 : w63.cell? ⟨gb656, 1, none⟩ = some (.int .i64 a0_1) := (blk_cell BK656.out 1).trans rfl; have hcz65_2 : w63.cell? ⟨gb656, 2, none⟩ = some (.slice A0_2 l0_2.length c0_2) := (blk_cell BK656.out 2).trans rfl; have hfz65_0 := blk_frozen BK656.out 0; have hfz65_1 := blk_frozen BK656.out 1; have hfz65_2 := blk_frozen BK656.out 2) | ((with_reducible refine gate_callee (f := 26) rfl ?_); refine goesL_ (some 11) rfl rfl Try.func26 (by kernel_rfl) rfl #[.agg #[.int .i64 a0_0, .int .i64 a0_1, .slice A0_2 l0_2.length c0_2]] rfl mapx ?_; (with_reducible refine (barscanref31_Valid.calls a0_0 a0_1 _ _ l0_2 false _ ?side1 ?side2 A3.out).mono ?_); (case side1 => repeat (first | exact (Kd.C_below HR0_2.out HB.out) | (with_reducible refine Kd.C_alloc ?_ _) | (with_reducible refine Kd.C_drewN ?_ _) | (with_reducible refine Kd.C_drew ?_))); (case side2 => exact HC0_2.out); rintro e w66 ⟨rfl, hb⟩; refine ⟨_, rfl, ?_⟩; have n0_ := Aside0.mk (blk_below (bkx BK656) hb); have n1_ := Aside0.mk (blk_below (bkx BK657) hb); have n2_ := Aside0.mk (below_step (hb2 HB GE656 GE657) hb); clear BK656; clear BK657; clear HB; have BK656 := n0_; have BK657 := n1_; have HB := n2_; clear n0_ n1_ n2_; (try clear hb); (try clear hb2); (try clear hk); (try clear hi); have hcz67_0 : w66.cell? ⟨gb657, 0, none⟩ = some (.int .i64 0) := (blk_cell BK657.out 0).trans rfl; have hcz67_1 : w66.cell? ⟨gb657, 1, none⟩ = some (.int .i64 0) := (blk_cell BK657.out 1).trans rfl; have hcz67_2 : w66.cell? ⟨gb657, 2, none⟩ = some (.slice none 0 0) := (blk_cell BK657.out 2).trans rfl; have hfz67_0 := blk_frozen BK657.out 0; have hfz67_1 := blk_frozen BK657.out 1; have hfz67_2 := blk_frozen BK657.out 2))
  refine bodyPost_ret (results_ct rfl _ _ gb657 24 #[.int .i64 0, .int .i64 0, .slice none 0 0] (0, 0) _ rfl (by refine bkt ?_; refine blk_put (cs := #[.int .i64 0, .int .i64 0, .slice none 0 0]) ?_ 2 _ rfl; refine bkt ?_; refine blk_put (cs := #[.int .i64 0, .int .i64 0, .slice none 0 0]) ?_ 1 _ rfl; refine bkt ?_; refine blk_put (cs := #[.int .i64 0, .int .i64 0, .slice none 0 0]) ?_ 0 _ rfl; refine bkt ?_; exact BK657.out) Try.underlying24 rfl (by kernel_rfl)) rfl ?_
  exact ⟨_, by first | rfl | (simp [errW_none, errW_some] <;> rfl) | (simp [*, errW_none, errW_some] <;> rfl), by first | exact Kd.R_nil _ _ _ _ _ | exact Kd.N_nil _ _ _ _ _ | exact Kd.V_nil _ _ _ _ _ | exact Kd.Q_nil _ _ _ _ _ | exact Kd.S_nil _ _ _ _ _, by repeat (first | (with_reducible first | exact HB.out | apply below_alloc | apply pw_below_drewN | apply below_drew1 | refine below_set ?_ GE656.out | refine below_set ?_ GE657.out) | exact HB.out)⟩

/-! ### slices_Clone_uint8_uint8: function 60 -/
def slices_Clone_uint8_uint8.f (l0 : List Int) : Option (List Int) := if l0.length < 140737488355328 then some l0 else none
theorem slices_Clone_uint8_uint8.calls (A0 : Option Addr) (c0 : Nat) (l0 : List Int) (r : List Int) (w : World) (hr0 : Kd.C (Kd.int .u8) w A0 l0.length l0) (hc0 : l0.length ≤ c0) (h : slices_Clone_uint8_uint8.f l0 = some r) :
  Calls Try.prog 60 #[.slice A0 l0.length c0] w fun e w' => ∃ v0_ : Value, e = .returned (v0_) ∧ Kd.R (Kd.int .u8) 5 w' w.heap.size (fun _ => True) v0_ r ∧ Below w.heap.size w w' := by
 unfold slices_Clone_uint8_uint8.f at h
 by_cases hl : l0.length < 140737488355328
 ·rw [if_pos hl] at h
  obtain rfl : l0 = r := by simpa using h
  clear h
  have hnil := fun (w : World) (c : Nat) => Lib.run_eql_slice_nil (P := Try.prog) w 56 5 A0 l0.length c 0 0 Try.underlying56
  cases A0 with
  | none =>
   have : l0 = [] := by
    rcases Nat.eq_zero_or_pos l0.length with h | h
    ·exact List.eq_nil_of_length_eq_zero h
    ·obtain ⟨ad, e, _⟩ := hr0.2.2 h; cases e
   subst this
   have hnil2 : ∀ w : World, (binOp .eql 56 (.slice none 0 c0) (.slice none 0 0)).run Try.prog w = .ok (.bool true) w := fun w => hnil w c0
   clear hnil
   go_enter Try.func60, Try.ntmps60
   go_wp2
   go_ret
   exact ⟨_, rfl, Kd.R_nil _ _ _ _ _, Below.refl _ _⟩
  | some ad =>
   have hnil2 : ∀ w : World, (binOp .eql 56 (.slice (some ad) l0.length c0) (.slice none 0 0)).run Try.prog w = .ok (.bool false) w := fun w => hnil w c0
   clear hnil
   go_enter Try.func60, Try.ntmps60
   go_wp2_with (first | ((with_reducible refine gate_dst (N := 5) rfl ?_); refine Kd.R_lit (Kd.int .u8) (w0 := w) w.heap.size 5 rfl (N := 5) rfl (xs := []) (inner := []) (okp := fun _ => True) (ok := fun _ => True) (by first | (go_simp; done) | (go_simp; rfl)) (Reps.none _ _) (fun _ h => h) trivial (by first | exact Below.refl _ _ | exact Below.drew (Below.refl _ _)) (Nat.le_refl _) (by simp) ?_; intro v1 w1 ho1 hb1 hg1 _; have HO1 := Aside0.mk ho1; have HB1 := Aside0.mk hb1; have HR1 := Aside0.mk (Kd.C_below hr0 hb1); have HS1 := Aside0.mk hb1.size; clear ho1 hb1 hg1) | ((with_reducible refine gate_dst (N := 7) rfl ?_); refine Kd.R_append_row (Value.int .u8) 0 (w0 := w) w.heap.size rfl (.tmp 5) (.tmp 6) 56 5 (.int .u8 0) 1 rfl Try.underlying56 info5 rfl (by decide) v1 [] l0 (some ad) l0.length c0 (fun _ => True) rfl rfl (fun _ _ => trivial) HO1.out HR1.out HB1.out HS1.out (by simp; omega) ?_; intro v2 w2 ho2 hb2 hg2 _; have HO2 := Aside0.mk ho2; have HB2 := Aside0.mk hb2; clear ho2 hb2 hg2))
   go_ret
   exact ⟨_, rfl, HO2.out, HB2.out⟩
 ·rw [if_neg hl] at h; cases h

/-! ### raster_turned_uint8: function 61 -/
mutual
def raster_turned_uint8.l0 : Nat → List Int → Int → Int → List Int → Int → Int → Option (List Int)
 | 0, _, _, _, _, _, _ => none
 | k + 1, x0, x1, x2, x7, x13, x14 => if x14 < x13 then (raster_turned_uint8.l1 k x0 x1 x2 x7 x14 x13 x14 x2 0) else (some x7)
def raster_turned_uint8.l1 : Nat → List Int → Int → Int → List Int → Int → Int → Int → Int → Int → Option (List Int)
 | 0, _, _, _, _, _, _, _, _, _ => none
 | k + 1, x0, x1, x2, x7, x8, x13, x14, x17, x18 => if x18 < x17 then (if 0 ≤ (wrap64 ((wrap64 ((wrap64 ((wrap64 (x2 - 1)) - x18)) * x1)) + x8)) then (if (wrap64 ((wrap64 ((wrap64 ((wrap64 (x2 - 1)) - x18)) * x1)) + x8)) < (x0.length : Int) then (if x7.length < 140737488355328 then (raster_turned_uint8.l1 k x0 x1 x2 (x7 ++ [rd x0 (wrap64 ((wrap64 ((wrap64 ((wrap64 (x2 - 1)) - x18)) * x1)) + x8))]) x8 x13 x14 x17 (wrap64 (x18 + 1))) else (none)) else (none)) else (none)) else (raster_turned_uint8.l0 k x0 x1 x2 x7 x13 (wrap64 (x14 + 1)))
end
def raster_turned_uint8.f (k : Nat) (l0 : List Int) (a1 : Int) (a2 : Int) : Option (List Int) := if 0 ≤ (l0.length : Int) then (if ((l0.length : Int) : Int).toNat ≤ 281474976710656 then (raster_turned_uint8.l0 k l0 a1 a2 (([] : List Int)) a1 0) else (none)) else (none)
theorem raster_turned_uint8.mono_l : ∀ k, (∀ y0 y1 y2 y3 y4 y5, LeO (raster_turned_uint8.l0 k y0 y1 y2 y3 y4 y5) (raster_turned_uint8.l0 (k + 1) y0 y1 y2 y3 y4 y5)) ∧ (∀ y0 y1 y2 y3 y4 y5 y6 y7 y8, LeO (raster_turned_uint8.l1 k y0 y1 y2 y3 y4 y5 y6 y7 y8) (raster_turned_uint8.l1 (k + 1) y0 y1 y2 y3 y4 y5 y6 y7 y8))
 | 0 => ⟨fun _ _ _ _ _ _ r h => by simp [raster_turned_uint8.l0] at h, fun _ _ _ _ _ _ _ _ _ r h => by simp [raster_turned_uint8.l1] at h⟩
 | k + 1 => by
  obtain ⟨ih0, ih1⟩ := raster_turned_uint8.mono_l k
  refine ⟨?_, ?_⟩
  ·intro y0 y1 y2 y3 y4 y5
   unfold raster_turned_uint8.l0
   repeat' first
   | (with_reducible exact ih0 _ _ _ _ _ _)
   | (with_reducible exact ih1 _ _ _ _ _ _ _ _ _)
   | (with_reducible exact LeO.refl _)
   | (with_reducible exact LeO.none _)
   | (with_reducible refine LeO.ite ?_ ?_)
   | (with_reducible refine LeO.bind ?_ (fun _ => ?_))
   | exact ih0 _ _ _ _ _ _
   | exact ih1 _ _ _ _ _ _ _ _ _
   | exact LeO.none _
   | refine LeO.ite ?_ ?_
   | refine LeO.bind ?_ (fun _ => ?_)
  ·intro y0 y1 y2 y3 y4 y5 y6 y7 y8
   unfold raster_turned_uint8.l1
   repeat' first
   | (with_reducible exact ih0 _ _ _ _ _ _)
   | (with_reducible exact ih1 _ _ _ _ _ _ _ _ _)
   | (with_reducible exact LeO.refl _)
   | (with_reducible exact LeO.none _)
   | (with_reducible refine LeO.ite ?_ ?_)
   | (with_reducible refine LeO.bind ?_ (fun _ => ?_))
   | exact ih0 _ _ _ _ _ _
   | exact ih1 _ _ _ _ _ _ _ _ _
   | exact LeO.none _
   | refine LeO.ite ?_ ?_
   | refine LeO.bind ?_ (fun _ => ?_)
theorem raster_turned_uint8.mono : ∀ a0 a1 a2 k, LeO (raster_turned_uint8.f k a0 a1 a2) (raster_turned_uint8.f (k + 1) a0 a1 a2) := by
 intro a0 a1 a2 k
 obtain ⟨ih0, ih1⟩ := raster_turned_uint8.mono_l k
 unfold raster_turned_uint8.f
 repeat' first
   | (with_reducible exact ih0 _ _ _ _ _ _)
   | (with_reducible exact ih1 _ _ _ _ _ _ _ _ _)
   | (with_reducible exact LeO.refl _)
   | (with_reducible exact LeO.none _)
   | (with_reducible refine LeO.ite ?_ ?_)
   | (with_reducible refine LeO.bind ?_ (fun _ => ?_))
   | exact ih0 _ _ _ _ _ _
   | exact ih1 _ _ _ _ _ _ _ _ _
   | exact LeO.none _
   | refine LeO.ite ?_ ?_
   | refine LeO.bind ?_ (fun _ => ?_)
set_option maxHeartbeats 8000000 in
set_option maxRecDepth 100000 in
theorem raster_turned_uint8.calls (k : Nat) (A0 : Option Addr) (c0 : Nat) (l0 : List Int) (a1 : Int) (a2 : Int) (r : List Int) (w : World) (hr0 : Kd.C (Kd.int .u8) w A0 l0.length l0) (hc0 : l0.length ≤ c0) (h : raster_turned_uint8.f k l0 a1 a2 = some r) :
  Calls Try.prog 61 #[.slice A0 l0.length c0, .int .i64 a1, .int .i64 a2] w fun e w' => ∃ v0_ : Value, e = .returned (v0_) ∧ Kd.R (Kd.int .u8) 5 w' w.heap.size (fun _ => True) v0_ r ∧ Below w.heap.size w w' := by
 have HR0 := Aside0.mk hr0
 have HC0 := Aside0.mk hc0
 clear hr0 hc0
 have HB := Aside0.mk (Below.refl w.heap.size w)
 have H : (if 0 ≤ (l0.length : Int) then (if ((l0.length : Int) : Int).toNat ≤ 281474976710656 then (raster_turned_uint8.l0 k l0 a1 a2 (([] : List Int)) a1 0) else (none)) else (none)) = some r := h
 clear h
 by_cases c4 : 0 ≤ (l0.length : Int)
 ·rw [if_pos c4] at H
  have c4b0 := eq_true c4
  have c4b1 : decide (0 ≤ (l0.length : Int)) = true := decide_eq_true c4
  clear c4
  by_cases c5 : ((l0.length : Int) : Int).toNat ≤ 281474976710656
  ·rw [if_pos c5] at H
   have c5b0 := eq_true c5
   have c5b1 : decide (((l0.length : Int) : Int).toNat ≤ 281474976710656) = true := decide_eq_true c5
   clear c5
   obtain ⟨y673, hy673⟩ : ∃ y_ : List Int, y_ = (([] : List Int)) := ⟨_, rfl⟩
   replace H : (raster_turned_uint8.l0 k l0 a1 a2 y673 a1 0) = some r := by first | (rw [hy673]; with_reducible exact H) | (have H2_ := (Option.bind_some _ _).symm.trans H; rw [hy673]; with_reducible exact H2_) | (have H2_ := (Option.bind_some _ _).symm.trans H; with_reducible exact H2_) | with_reducible exact H | (rw [hy673]; exact H) | exact H
   have Ny673 := Aside0.mk hy673
   clear hy673
   have H' := Aside0.mk H
   clear H
   go_enter Try.func61, Try.ntmps61
   go_wp2_with (first | ((with_reducible refine gate_dst (N := 12) rfl ?_); refine R_makecap (Kd.int .u8) _ 5 rfl (N := 12) rfl 56 _ _ rfl (l0.length : Int) rfl rfl Try.underlying56 (.int .u8 0) 1 info5 rfl (by decide) (by omega) (ok := fun _ => True) trivial (of_decide_eq_true (by first | (with_reducible assumption) | assumption)) (Nat.le_trans (Nat.mul_le_mul_right _ (of_decide_eq_true (by first | (with_reducible assumption) | assumption) : (l0.length : Int).toNat ≤ 281474976710656)) (by omega)) (Below.refl _ _) (Nat.le_refl _) ?_; intro v674 w6 ho7 hb hg_ hnew_; clear hg_ hnew_; (first | rw [← Ny673.out] at ho7 | (simp only [Int.reduceToNat] at ho7; rw [← Ny673.out] at ho7)); have n0_ := Aside0.mk (Kd.R_lower ho7 (below_size (hb0 HB))); have n1_ := Aside0.mk (below_step (hb0 HB) hb); clear HB; have HO675 := n0_; have HB := n1_; clear n0_ n1_; clear hb ho7))
   go_loopg [7, 14] k (fun kq v7 v14 w' => ∃ (x7_1 : List Int) (x14_1 : Int), v14 = .int .i64 x14_1 ∧ Aside0 (raster_turned_uint8.l0 kq l0 a1 a2 x7_1 a1 x14_1 = some r) ∧ Aside0 (kq ≤ k) ∧ Aside0 (Kd.R (Kd.int .u8) 5 w' w.heap.size (fun _ => True) v7 x7_1) ∧ Aside0 (Below w.heap.size w w'))
   case atStart => exact ⟨(y673), (0), (by first | rfl | (simp; done) | (simp [*]; done)), H', ⟨Nat.le_refl _⟩, ⟨rkx HO675⟩, ⟨hb0 HB⟩⟩
   case round =>
    clear H'
    try clear p2
    try clear c4
    try clear c4b0
    try clear c4b1
    try clear c5
    try clear c5b0
    try clear c5b1
    try clear c6
    obtain ⟨x7_1, x14_1, rfl, HA, HK1, HO_7, HB⟩ := hrel
    cases gk with
    | zero => exact absurd HA.out (by simp [raster_turned_uint8.l0])
    | succ k1 =>
     have H := HA.out
     clear HA
     simp only [raster_turned_uint8.l0] at H
     by_cases c8 : x14_1 < a1
     ·rw [if_pos c8] at H
      have c8b0 : decide (x14_1 < a1) = true := decide_eq_true c8
      clear c8
      have H' := Aside0.mk H
      clear H
      go_wp2
      go_loopg [7, 18] k1 (fun kq v7 v18 w' => ∃ (x7_2 : List Int) (x18_2 : Int), v18 = .int .i64 x18_2 ∧ Aside0 (raster_turned_uint8.l1 kq l0 a1 a2 x7_2 x14_1 a1 x14_1 a2 x18_2 = some r) ∧ Aside0 (kq ≤ k1) ∧ Aside0 (Kd.R (Kd.int .u8) 5 w' w.heap.size (fun _ => True) v7 x7_2) ∧ Aside0 (Below w.heap.size w w'))
      case atStart => exact ⟨(x7_1), (0), (by first | rfl | (simp; done) | (simp [*]; done)), H', ⟨Nat.le_refl _⟩, ⟨rkx HO_7⟩, ⟨hb0 HB⟩⟩
      case round =>
       clear H'
       try clear p2
       try clear c4
       try clear c4b0
       try clear c4b1
       try clear c5
       try clear c5b0
       try clear c5b1
       try clear c6
       try clear c8
       try clear c8b0
       try clear p2
       obtain ⟨x7_2, x18_2, rfl, HA, HK2, HO_7, HB⟩ := hrel
       cases gk with
       | zero => exact absurd HA.out (by simp [raster_turned_uint8.l1])
       | succ k2 =>
        have H := HA.out
        clear HA
        simp only [raster_turned_uint8.l1] at H
        by_cases c9 : x18_2 < a2
        ·rw [if_pos c9] at H
         have c9b0 : decide (x18_2 < a2) = true := decide_eq_true c9
         clear c9
         obtain ⟨ji10, hji10⟩ : ∃ j_ : Int, (wrap64 ((wrap64 ((wrap64 ((wrap64 (a2 - 1)) - x18_2)) * a1)) + x14_1)) = j_ := ⟨_, rfl⟩
         replace H : (if 0 ≤ (ji10) then (if (ji10) < (l0.length : Int) then (if x7_2.length < 140737488355328 then (raster_turned_uint8.l1 k2 l0 a1 a2 (x7_2 ++ [rd l0 (ji10)]) x14_1 a1 x14_1 a2 (wrap64 (x18_2 + 1))) else (none)) else (none)) else (none)) = some r := by first | (rw [hji10] at H; exact H) | (simp only [hji10] at H ⊢; exact H)
         have hji10w : (IntKind.i64.wrap ((wrap64 ((wrap64 ((wrap64 (a2 - 1)) - x18_2)) * a1)) + x14_1)) = ji10 := (i64_w _).trans hji10
         by_cases c11 : 0 ≤ (ji10)
         ·rw [if_pos c11] at H
          have c11b0 : decide (0 ≤ (ji10)) = true := decide_eq_true c11
          clear c11
          by_cases c12 : (ji10) < (l0.length : Int)
          ·rw [if_pos c12] at H
           have c12b0 : decide ((ji10) < (l0.length : Int)) = true := decide_eq_true c12
           clear c12
           by_cases c13 : x7_2.length < 140737488355328
           ·rw [if_pos c13] at H
            have LMc13 := Aside0.mk c13
            clear c13
            obtain ⟨y677, hy677⟩ : ∃ y_ : List Int, y_ = (x7_2 ++ [rd l0 (ji10)]) := ⟨_, rfl⟩
            replace H : (raster_turned_uint8.l1 k2 l0 a1 a2 y677 x14_1 a1 x14_1 a2 (wrap64 (x18_2 + 1))) = some r := by first | (rw [hy677]; with_reducible exact H) | (have H2_ := (Option.bind_some _ _).symm.trans H; rw [hy677]; with_reducible exact H2_) | (have H2_ := (Option.bind_some _ _).symm.trans H; with_reducible exact H2_) | with_reducible exact H | (rw [hy677]; exact H) | exact H
            have Ny677 := Aside0.mk hy677
            clear hy677
            have H' := Aside0.mk H
            clear H
            have p676 : 0 ≤ ((ji10) : Int) := of_decide_eq_true (by first | (with_reducible assumption) | assumption)
            have q676 : (ji10) < (l0.length : Int) := of_decide_eq_true (by first | (with_reducible assumption) | assumption)
            obtain ⟨ad676, e676, hx676_0⟩ := Kd.at_int HR0.out (ji10) p676 q676
            cases e676
            replace hx676_0 := (HB.out.cell (World.block_lt_of_cell? w _ hx676_0)).trans hx676_0
            replace p676 := eq_true p676
            replace q676 := eq_true q676
            go_wp2_with (first | ((with_reducible refine gate_builtin (b := .append) (xs := #[.tmp 21, .tmp 33]) rfl ?_); at_builtin; refine Kd.R_append (Kd.int .u8) (w0 := w) w.heap.size rfl (.tmp 21) (.tmp 33) 56 5 (.int .u8 0) 1 rfl Try.underlying56 info5 rfl (by decide) (by omega) u7 x7_2 (rd l0 (ji10)) [.int .u8 (rd l0 (ji10))] (fun _ => True) (fun _ => False) rfl rfl ?aP (fun _ hk => hk.elim) ?aF ?aO ?aB ?aS ?aL ?_; (case aP => exact rfl); (case aB => exact (hb0 HB)); (case aF => exact (fun _ _ => trivial)); (case aO => exact (rkx HO_7)); (case aS => exact (below_size (hb0 HB))); (case aL => have := LMc13.out; omega); intro v678 w14 ho hb hg hat; rw [← Ny677.out] at ho; have n0_ := Aside0.mk (hb); have n1_ := Aside0.mk (ho); clear HB; clear HO_7; have HB := n0_; have HO679 := n1_; clear n0_ n1_; clear ho hb hg hat))
            go_roundg k2
            case measure => have := HK1.out; have := HK2.out; omega
            case rel => exact ⟨(y677), (wrap64 (x18_2 + 1)), (by first | rfl | (simp; done) | (simp [*]; done)), H', ⟨by have := HK1.out; have := HK2.out; omega⟩, ⟨rkx HO679⟩, ⟨hb0 HB⟩⟩
           ·rw [if_neg c13] at H
            exact absurd H (by simp)
          ·rw [if_neg c12] at H
           exact absurd H (by simp)
         ·rw [if_neg c11] at H
          exact absurd H (by simp)
        ·rw [if_neg c9] at H
         have c9b0 : decide (x18_2 < a2) = false := decide_eq_false c9
         clear c9
         have H' := Aside0.mk H
         clear H
         go_wp2
         go_roundg k2
         case measure => have := HK1.out; have := HK2.out; omega
         case rel => exact ⟨(x7_2), (wrap64 (x14_1 + 1)), (by first | rfl | (simp; done) | (simp [*]; done)), H', ⟨by have := HK1.out; have := HK2.out; omega⟩, ⟨rkx HO_7⟩, ⟨hb0 HB⟩⟩
     ·rw [if_neg c8] at H
      have c8b0 : decide (x14_1 < a1) = false := decide_eq_false c8
      clear c8
      obtain rfl := Option.some.inj H
      go_wp2
      go_ret
      exact ⟨_, by first | rfl | (simp [errW_none, errW_some] <;> rfl) | (simp [*, errW_none, errW_some] <;> rfl), by refine rkt ?_; exact HO_7.out, by repeat (first | (with_reducible first | exact HB.out | apply below_alloc | apply pw_below_drewN | apply below_drew1) | exact HB.out)⟩
  ·rw [if_neg c5] at H
   exact absurd H (by simp)
 ·rw [if_neg c4] at H
  exact absurd H (by simp)

end Go.Proofs.Ytcmcmoaikabfoaa.PR
