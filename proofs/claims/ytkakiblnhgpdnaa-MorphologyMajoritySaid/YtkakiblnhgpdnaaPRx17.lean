-- Written by this session's own program (myprint.py).
import Derived.Test.YtkakiblnhgpdnaaPRx0
import Derived.Test.YtkakiblnhgpdnaaPRx10
import Derived.Test.YtkakiblnhgpdnaaPRx16
namespace Go.Proofs.Ytkakiblnhgpdnaa.PR
open Go.RowKit Go.Proofs.YtkakiblnhgpdnaaW.PrintWords Go.Proofs.YtkakiblnhgpdnaaW.PrintLast Go.Proofs.YtkakiblnhgpdnaaW.PrintMore Go.Proofs.Ytkakiblnhgpdnaa.XWords Go.Proofs.Ytkakiblnhgpdnaa.XShort Go.Proofs.Ytkakiblnhgpdnaa.XFn
attribute [local go_sem] max2_int min2_int max_two min_two max_three min_three max_four min_four   -- for this text's walks alone
set_option linter.unusedVariables false
set_option linter.unusedSimpArgs false

/-! ### barscanref37_Outline: function 21 -/
def barscanref37_Outline.l0 : Nat → Int → Int → Int → List Bool → Int → Int → List Bool → Option (Int × Int × List Bool × Int)
 | 0, _, _, _, _, _, _, _ => none
 | k + 1, x6, x444000, x444001, x444002, x447000, x447001, x447002 => if x6 < (x444002.length : Int) then (if x444000 = 0 then (none) else ((barscanref31_At.f x444000 x444001 x444002 (wrap64 ((Int.tmod x6 x444000) - 1)) (wrap64 (Int.tdiv x6 x444000))).bind fun t447 => (if t447 = true then ((barscanref31_At.f x444000 x444001 x444002 (wrap64 ((Int.tmod x6 x444000) + 1)) (wrap64 (Int.tdiv x6 x444000))).bind fun t448 => (if t448 = true then ((barscanref31_At.f x444000 x444001 x444002 (Int.tmod x6 x444000) (wrap64 ((wrap64 (Int.tdiv x6 x444000)) - 1))).bind fun t449 => (if t449 = true then ((barscanref31_At.f x444000 x444001 x444002 (Int.tmod x6 x444000) (wrap64 ((wrap64 (Int.tdiv x6 x444000)) + 1))).bind fun t450 => (if 0 ≤ x6 then (if rdOf false x444002 x6 = true then (if x447002.length < 140737488355328 then (barscanref37_Outline.l0 k (wrap64 (x6 + 1)) x444000 x444001 x444002 x447000 x447001 (x447002 ++ [!t450])) else (none)) else (if x447002.length < 140737488355328 then (barscanref37_Outline.l0 k (wrap64 (x6 + 1)) x444000 x444001 x444002 x447000 x447001 (x447002 ++ [false])) else (none))) else (none))) else (if 0 ≤ x6 then (if rdOf false x444002 x6 = true then (if x447002.length < 140737488355328 then (barscanref37_Outline.l0 k (wrap64 (x6 + 1)) x444000 x444001 x444002 x447000 x447001 (x447002 ++ [!false])) else (none)) else (if x447002.length < 140737488355328 then (barscanref37_Outline.l0 k (wrap64 (x6 + 1)) x444000 x444001 x444002 x447000 x447001 (x447002 ++ [false])) else (none))) else (none)))) else (if 0 ≤ x6 then (if rdOf false x444002 x6 = true then (if x447002.length < 140737488355328 then (barscanref37_Outline.l0 k (wrap64 (x6 + 1)) x444000 x444001 x444002 x447000 x447001 (x447002 ++ [!false])) else (none)) else (if x447002.length < 140737488355328 then (barscanref37_Outline.l0 k (wrap64 (x6 + 1)) x444000 x444001 x444002 x447000 x447001 (x447002 ++ [false])) else (none))) else (none)))) else (if 0 ≤ x6 then (if rdOf false x444002 x6 = true then (if x447002.length < 140737488355328 then (barscanref37_Outline.l0 k (wrap64 (x6 + 1)) x444000 x444001 x444002 x447000 x447001 (x447002 ++ [!false])) else (none)) else (if x447002.length < 140737488355328 then (barscanref37_Outline.l0 k (wrap64 (x6 + 1)) x444000 x444001 x444002 x447000 x447001 (x447002 ++ [false])) else (none))) else (none))))) else (some (x447000, x447001, x447002, 0))
def barscanref37_Outline.f (k : Nat) (a0_0 : Int) (a0_1 : Int) (l0_2 : List Bool) : Option (Int × Int × List Bool × Int) := (barscanref37_check.f a0_0 a0_1 l0_2 0 0).bind fun t445 => (if t445 = 0 then (barscanref37_Outline.l0 k 0 a0_0 a0_1 l0_2 a0_0 a0_1 ([] : List Bool)) else (some (0, 0, ([] : List Bool), t445)))
theorem barscanref37_Outline.mono_l : ∀ k, (∀ y0 y1 y2 y3 y4 y5 y6, LeO (barscanref37_Outline.l0 k y0 y1 y2 y3 y4 y5 y6) (barscanref37_Outline.l0 (k + 1) y0 y1 y2 y3 y4 y5 y6))
 | 0 => fun _ _ _ _ _ _ _ r h => by simp [barscanref37_Outline.l0] at h
 | k + 1 => by
  have ih0 := barscanref37_Outline.mono_l k
  ·intro y0 y1 y2 y3 y4 y5 y6
   unfold barscanref37_Outline.l0
   repeat' first
   | (with_reducible exact ih0 _ _ _ _ _ _ _)
   | (with_reducible exact LeO.refl _)
   | (with_reducible exact LeO.none _)
   | (with_reducible refine LeO.ite ?_ ?_)
   | (with_reducible refine LeO.bind ?_ (fun _ => ?_))
   | exact ih0 _ _ _ _ _ _ _
   | exact LeO.none _
   | refine LeO.ite ?_ ?_
   | refine LeO.bind ?_ (fun _ => ?_)
theorem barscanref37_Outline.mono : ∀ a0 a1 a2 k, LeO (barscanref37_Outline.f k a0 a1 a2) (barscanref37_Outline.f (k + 1) a0 a1 a2) := by
 intro a0 a1 a2 k
 have ih0 := barscanref37_Outline.mono_l k
 unfold barscanref37_Outline.f
 repeat' first
   | (with_reducible exact ih0 _ _ _ _ _ _ _)
   | (with_reducible exact LeO.refl _)
   | (with_reducible exact LeO.none _)
   | (with_reducible refine LeO.ite ?_ ?_)
   | (with_reducible refine LeO.bind ?_ (fun _ => ?_))
   | exact ih0 _ _ _ _ _ _ _
   | exact LeO.none _
   | refine LeO.ite ?_ ?_
   | refine LeO.bind ?_ (fun _ => ?_)
def barscanref37_Outline.T11 : Bool × List (List Nat × List Nat) := (true, [([], []), ([0], [0]), ([], []), ([2], [2]), ([], []), ([3, 4], [3, 4]), ([5], [5]), ([6], [6]), ([7], [7]), ([8, 7], [7, 8]), ([7, 9], [7, 9]), ([10], [10]), ([1, 11, 7], [1, 11]), ([0, 1, 2, 3, 4, 5, 6, 7, 8, 9, 10, 11, 12], []), ([13, 12, 12, 0, 1, 2, 3, 4, 5, 6, 7, 8, 9, 10, 11, 12], [12, 13])])
def barscanref37_Outline.B11 : List Nat := [0, 1, 0, 4, 0, 28, 60, 124, 252, 508, 1020, 2044, 4095, 8191, 16383]
theorem barscanref37_Outline.tab11 : rtab .any (opsOf Try.f21 11) = barscanref37_Outline.T11 := by kernel_rfl
theorem barscanref37_Outline.bits11 : waitsOk barscanref37_Outline.T11.2 barscanref37_Outline.B11 = true := by kernel_rfl
set_option maxHeartbeats 8000000 in
set_option maxRecDepth 100000 in
theorem barscanref37_Outline.calls (k : Nat) (a0_0 : Int) (a0_1 : Int) (A0_2 : Option Addr) (c0_2 : Nat) (l0_2 : List Bool) (r1 : Int) (r2 : Int) (r3 : List Bool) (r4 : Int) (w : World) (hr0_2 : Kd.C Kd.bool w A0_2 l0_2.length l0_2) (hc0_2 : l0_2.length ≤ c0_2) (h : barscanref37_Outline.f k a0_0 a0_1 l0_2 = some (r1, r2, r3, r4)) :
  Calls Try.prog 21 #[.agg #[.int .i64 a0_0, .int .i64 a0_1, .slice A0_2 l0_2.length c0_2]] w fun e w' => ∃ v2_ : Value, e = .returned (.tuple #[.agg #[.int .i64 r1, .int .i64 r2, v2_], .int .i64 r4]) ∧ Kd.R Kd.bool 4 w' w.heap.size (fun _ => True) v2_ r3 ∧ Below w.heap.size w w' := by
 have hu24 := Try.underlying24
 have HR0_2 := Aside0.mk hr0_2
 have HC0_2 := Aside0.mk hc0_2
 clear hr0_2 hc0_2
 have HB := Aside0.mk (Below.refl w.heap.size w)
 have H : ((barscanref37_check.f a0_0 a0_1 l0_2 0 0).bind fun t445 => (if t445 = 0 then (barscanref37_Outline.l0 k 0 a0_0 a0_1 l0_2 a0_0 a0_1 ([] : List Bool)) else (some (0, 0, ([] : List Bool), t445)))) = some (r1, r2, r3, r4) := h
 clear h
 replace H := Option.bind_eq_some_iff.mp H
 obtain ⟨t445, A20, H⟩ := H
 replace H : (if t445 = 0 then (barscanref37_Outline.l0 k 0 a0_0 a0_1 l0_2 a0_0 a0_1 ([] : List Bool)) else (some (0, 0, ([] : List Bool), t445))) = some (r1, r2, r3, r4) := H
 have A2 := Aside0.mk A20
 clear A20
 by_cases c3 : t445 = 0
 ·rw [if_pos c3] at H
  have c3b0 : (t445 == 0) = true := beq_iff_eq.mpr c3
  have c3b1 : (t445 != 0) = false := bne_eq_false_iff_eq.mpr c3
  clear c3
  have H' := Aside0.mk H
  clear H
  go_enter Try.func21, Try.ntmps21
  go_wp2_with (first | ((with_reducible refine gate_dst (N := 1) rfl ?_); refine box_event ?hg (N := 1) ?hd (cs := #[.int .i64 a0_0, .int .i64 a0_1, .slice A0_2 l0_2.length c0_2]) (t := 24) ?hr ?_; (case hd => rfl); (case hg => rfl); (case hr => first | (go_simp; done) | (go_simp; rfl)); intro gb443 hg w4 hbox hb; have n0_ := Aside0.mk (below_step (hb0 HB) hb); have n1_ := Aside0.mk (hbox); have n2_ := Aside0.mk ((by rw [hg]; exact (below_size (hb0 HB)) : w.heap.size ≤ gb443)); have n3_ := Aside0.mk ((by rw [hg]; exact (below_size (hb0 HB)) : w.heap.size ≤ gb443)); clear HB; have HB := n0_; have BK443 := n1_; have GW443 := n2_; have GE443 := n3_; clear n0_ n1_ n2_ n3_; clear hb hbox hg) | ((with_reducible refine gate_dst (N := 2) rfl ?_); refine box_event ?hg (N := 2) ?hd (cs := #[.int .i64 0, .int .i64 0, .slice none 0 0]) (t := 24) ?hr ?_; (case hd => rfl); (case hg => rfl); (case hr => first | (go_simp; done) | (go_simp; rfl)); intro gb444 hg w5 hbox hb; have n0_ := Aside0.mk (blk_below (bkx BK443) hb); have n1_ := Aside0.mk (below_step (hb1 HB GE443) hb); have n2_ := Aside0.mk (hbox); have n3_ := Aside0.mk ((by rw [hg]; exact (below_size (hb1 HB GE443)) : w.heap.size ≤ gb444)); have n4_ := Aside0.mk ((by rw [hg]; exact (below_size (hb1 HB GE443)) : w.heap.size ≤ gb444)); have n5_ := Aside0.mk (nel hg BK443 : gb443 ≠ gb444); have n6_ := Aside0.mk (neg hg BK443 : gb444 ≠ gb443); clear BK443; clear HB; have BK443 := n0_; have HB := n1_; have BK444 := n2_; have GW444 := n3_; have GE444 := n4_; have NB443_444 := n5_; have NB444_443 := n6_; clear n0_ n1_ n2_ n3_ n4_ n5_ n6_; clear hb hbox hg; have hnb6 := NB443_444.out; have hnc6 := NB444_443.out; have hcz7_0 : w5.cell? ⟨gb443, 0, none⟩ = some (.int .i64 a0_0) := (blk_cell BK443.out 0).trans rfl; have hcz7_1 : w5.cell? ⟨gb443, 1, none⟩ = some (.int .i64 a0_1) := (blk_cell BK443.out 1).trans rfl; have hcz7_2 : w5.cell? ⟨gb443, 2, none⟩ = some (.slice A0_2 l0_2.length c0_2) := (blk_cell BK443.out 2).trans rfl; have hfz7_0 := blk_frozen BK443.out 0; have hfz7_1 := blk_frozen BK443.out 1; have hfz7_2 := blk_frozen BK443.out 2) | ((with_reducible refine gate_callee (f := 33) rfl ?_); refine goesL_ (some 11) rfl rfl Try.func33 (by kernel_rfl) rfl #[.agg #[.int .i64 a0_0, .int .i64 a0_1, .slice A0_2 l0_2.length c0_2], .int .i64 0, .int .i64 0] rfl mapx ?_; (with_reducible refine (barscanref37_check.calls a0_0 a0_1 _ _ l0_2 0 0 t445 _ ?side1 ?side2 A2.out).mono ?_); (case side1 => repeat (first | exact (Kd.C_below HR0_2.out HB.out) | (with_reducible refine Kd.C_alloc ?_ _) | (with_reducible refine Kd.C_drewN ?_ _) | (with_reducible refine Kd.C_drew ?_))); (case side2 => exact HC0_2.out); rintro e w8 ⟨rfl, hb⟩; refine ⟨_, rfl, ?_⟩; have n0_ := Aside0.mk (blk_below (bkx BK443) hb); have n1_ := Aside0.mk (blk_below (bkx BK444) hb); have n2_ := Aside0.mk (below_step (hb2 HB GE443 GE444) hb); clear BK443; clear BK444; clear HB; have BK443 := n0_; have BK444 := n1_; have HB := n2_; clear n0_ n1_ n2_; (try clear hb); (try clear hb2); (try clear hk); (try clear hi); have hcz9_0 : w8.cell? ⟨gb443, 0, none⟩ = some (.int .i64 a0_0) := (blk_cell BK443.out 0).trans rfl; have hcz9_1 : w8.cell? ⟨gb443, 1, none⟩ = some (.int .i64 a0_1) := (blk_cell BK443.out 1).trans rfl; have hcz9_2 : w8.cell? ⟨gb443, 2, none⟩ = some (.slice A0_2 l0_2.length c0_2) := (blk_cell BK443.out 2).trans rfl; have hfz9_0 := blk_frozen BK443.out 0; have hfz9_1 := blk_frozen BK443.out 1; have hfz9_2 := blk_frozen BK443.out 2) | ((with_reducible refine gate_dst (N := 5) rfl ?_); refine box_event ?hg (N := 5) ?hd (cs := #[.int .i64 0, .int .i64 0, .slice none 0 0]) (t := 24) ?hr ?_; (case hd => rfl); (case hg => rfl); (case hr => first | (go_simp; done) | (go_simp; rfl)); intro gb446 hg w10 hbox hb; have n0_ := Aside0.mk (blk_below (bkx BK443) hb); have n1_ := Aside0.mk (blk_below (bkx BK444) hb); have n2_ := Aside0.mk (below_step (hb2 HB GE443 GE444) hb); have n3_ := Aside0.mk (hbox); have n4_ := Aside0.mk ((by rw [hg]; exact (below_size (hb2 HB GE443 GE444)) : w.heap.size ≤ gb446)); have n5_ := Aside0.mk ((by rw [hg]; exact (below_size (hb2 HB GE443 GE444)) : w.heap.size ≤ gb446)); have n6_ := Aside0.mk (nel hg BK443 : gb443 ≠ gb446); have n7_ := Aside0.mk (neg hg BK443 : gb446 ≠ gb443); have n8_ := Aside0.mk (nel hg BK444 : gb444 ≠ gb446); have n9_ := Aside0.mk (neg hg BK444 : gb446 ≠ gb444); clear BK443; clear BK444; clear HB; have BK443 := n0_; have BK444 := n1_; have HB := n2_; have BK446 := n3_; have GW446 := n4_; have GE446 := n5_; have NB443_446 := n6_; have NB446_443 := n7_; have NB444_446 := n8_; have NB446_444 := n9_; clear n0_ n1_ n2_ n3_ n4_ n5_ n6_ n7_ n8_ n9_; clear hb hbox hg; have hnb11 := NB446_443.out; have hnc11 := NB443_446.out; have hnb12 := NB446_444.out; have hnc12 := NB444_446.out; have hcz13_0 : w10.cell? ⟨gb446, 0, none⟩ = some (.int .i64 0) := (blk_cell BK446.out 0).trans rfl; have hcz13_1 : w10.cell? ⟨gb446, 1, none⟩ = some (.int .i64 0) := (blk_cell BK446.out 1).trans rfl; have hcz13_2 : w10.cell? ⟨gb446, 2, none⟩ = some (.slice none 0 0) := (blk_cell BK446.out 2).trans rfl; have hfz13_0 := blk_frozen BK446.out 0; have hfz13_1 := blk_frozen BK446.out 1; have hfz13_2 := blk_frozen BK446.out 2))
  go_loopg [6] k (fun kq v6 w' => ∃ (x6_1 : Int) (x447002_1 : List Bool) (u447002 : Value), v6 = .int .i64 x6_1 ∧ Aside0 (barscanref37_Outline.l0 kq x6_1 a0_0 a0_1 l0_2 a0_0 a0_1 x447002_1 = some (r1, r2, r3, r4)) ∧ Aside0 (kq ≤ k) ∧ Aside0 (Kd.R Kd.bool 4 w' w.heap.size (fun _ => True) u447002 x447002_1) ∧ Aside0 (w'.heap[gb443]? = some (.cells #[.int .i64 a0_0, .int .i64 a0_1, (.slice A0_2 l0_2.length c0_2)] 24 (0, 0))) ∧ Aside0 (w'.heap[gb444]? = some (.cells #[.int .i64 0, .int .i64 0, (.slice none 0 0)] 24 (0, 0))) ∧ Aside0 (w'.heap[gb446]? = some (.cells #[.int .i64 a0_0, .int .i64 a0_1, u447002] 24 (0, 0))) ∧ Aside0 (Below w.heap.size w w'))
  case atStart => exact ⟨(0), (([] : List Bool)), (.slice none 0 0), (by first | rfl | (simp; done) | (simp [*]; done)), H', ⟨Nat.le_refl _⟩, ⟨by first | exact Kd.R_nil _ _ _ _ _ | exact Kd.N_nil _ _ _ _ _ | exact Kd.V_nil _ _ _ _ _ | exact Kd.Q_nil _ _ _ _ _ | exact Kd.S_nil _ _ _ _ _⟩, ⟨bky BK443 NB443_446⟩, ⟨bky BK444 NB444_446⟩, ⟨by refine bkt ?_; refine blk_put (cs := #[.int .i64 a0_0, .int .i64 a0_1, .slice none 0 0]) ?_ 2 _ rfl; refine bkt ?_; refine blk_put (cs := #[.int .i64 a0_0, .int .i64 0, .slice none 0 0]) ?_ 1 _ rfl; refine bkt ?_; refine blk_put (cs := #[.int .i64 0, .int .i64 0, .slice none 0 0]) ?_ 0 _ rfl; refine bkt ?_; exact BK446.out⟩, ⟨hb3 HB GE443 GE444 GE446⟩⟩
  case round =>
   clear H'
   try clear c1
   try clear c2
   try clear p2
   try clear c3
   try clear c3b0
   try clear c3b1
   try clear c6
   try clear c11
   try clear c12
   try clear hcz13_0
   try clear hcz13_1
   try clear hcz13_2
   try clear hcz7_0
   try clear hcz7_1
   try clear hcz7_2
   try clear hcz9_0
   try clear hcz9_1
   try clear hcz9_2
   try clear hfz13_0
   try clear hfz13_1
   try clear hfz13_2
   try clear hfz7_0
   try clear hfz7_1
   try clear hfz7_2
   try clear hfz9_0
   try clear hfz9_1
   try clear hfz9_2
   obtain ⟨x6_1, x447002_1, u447002, rfl, HA, HK1, HO_447002, BK443, BK444, BK446, HB⟩ := hrel
   cases gk with
   | zero => exact absurd HA.out (by simp [barscanref37_Outline.l0])
   | succ k1 =>
    have H := HA.out
    clear HA
    simp only [barscanref37_Outline.l0] at H
    by_cases c14 : x6_1 < (l0_2.length : Int)
    ·rw [if_pos c14] at H
     have c14b0 : decide (x6_1 < (l0_2.length : Int)) = true := decide_eq_true c14
     clear c14
     by_cases c15 : a0_0 = 0
     ·rw [if_pos c15] at H
      exact absurd H (by simp)
     ·rw [if_neg c15] at H
      have c15b0 : (a0_0 == 0) = false := beq_eq_false_iff_ne.mpr c15
      have c15b1 : (a0_0 != 0) = true := bne_iff_ne.mpr c15
      replace H := Option.bind_eq_some_iff.mp H
      obtain ⟨t447, A160, H⟩ := H
      replace H : (if t447 = true then ((barscanref31_At.f a0_0 a0_1 l0_2 (wrap64 ((Int.tmod x6_1 a0_0) + 1)) (wrap64 (Int.tdiv x6_1 a0_0))).bind fun t448 => (if t448 = true then ((barscanref31_At.f a0_0 a0_1 l0_2 (Int.tmod x6_1 a0_0) (wrap64 ((wrap64 (Int.tdiv x6_1 a0_0)) - 1))).bind fun t449 => (if t449 = true then ((barscanref31_At.f a0_0 a0_1 l0_2 (Int.tmod x6_1 a0_0) (wrap64 ((wrap64 (Int.tdiv x6_1 a0_0)) + 1))).bind fun t450 => (if 0 ≤ x6_1 then (if rdOf false l0_2 x6_1 = true then (if x447002_1.length < 140737488355328 then (barscanref37_Outline.l0 k1 (wrap64 (x6_1 + 1)) a0_0 a0_1 l0_2 a0_0 a0_1 (x447002_1 ++ [!t450])) else (none)) else (if x447002_1.length < 140737488355328 then (barscanref37_Outline.l0 k1 (wrap64 (x6_1 + 1)) a0_0 a0_1 l0_2 a0_0 a0_1 (x447002_1 ++ [false])) else (none))) else (none))) else (if 0 ≤ x6_1 then (if rdOf false l0_2 x6_1 = true then (if x447002_1.length < 140737488355328 then (barscanref37_Outline.l0 k1 (wrap64 (x6_1 + 1)) a0_0 a0_1 l0_2 a0_0 a0_1 (x447002_1 ++ [!false])) else (none)) else (if x447002_1.length < 140737488355328 then (barscanref37_Outline.l0 k1 (wrap64 (x6_1 + 1)) a0_0 a0_1 l0_2 a0_0 a0_1 (x447002_1 ++ [false])) else (none))) else (none)))) else (if 0 ≤ x6_1 then (if rdOf false l0_2 x6_1 = true then (if x447002_1.length < 140737488355328 then (barscanref37_Outline.l0 k1 (wrap64 (x6_1 + 1)) a0_0 a0_1 l0_2 a0_0 a0_1 (x447002_1 ++ [!false])) else (none)) else (if x447002_1.length < 140737488355328 then (barscanref37_Outline.l0 k1 (wrap64 (x6_1 + 1)) a0_0 a0_1 l0_2 a0_0 a0_1 (x447002_1 ++ [false])) else (none))) else (none)))) else (if 0 ≤ x6_1 then (if rdOf false l0_2 x6_1 = true then (if x447002_1.length < 140737488355328 then (barscanref37_Outline.l0 k1 (wrap64 (x6_1 + 1)) a0_0 a0_1 l0_2 a0_0 a0_1 (x447002_1 ++ [!false])) else (none)) else (if x447002_1.length < 140737488355328 then (barscanref37_Outline.l0 k1 (wrap64 (x6_1 + 1)) a0_0 a0_1 l0_2 a0_0 a0_1 (x447002_1 ++ [false])) else (none))) else (none))) = some (r1, r2, r3, r4) := H
      have A16 := Aside0.mk A160
      clear A160
      by_cases c17 : t447 = true
      ·subst c17
       have H1 : ((barscanref31_At.f a0_0 a0_1 l0_2 (wrap64 ((Int.tmod x6_1 a0_0) + 1)) (wrap64 (Int.tdiv x6_1 a0_0))).bind fun t448 => (if t448 = true then ((barscanref31_At.f a0_0 a0_1 l0_2 (Int.tmod x6_1 a0_0) (wrap64 ((wrap64 (Int.tdiv x6_1 a0_0)) - 1))).bind fun t449 => (if t449 = true then ((barscanref31_At.f a0_0 a0_1 l0_2 (Int.tmod x6_1 a0_0) (wrap64 ((wrap64 (Int.tdiv x6_1 a0_0)) + 1))).bind fun t450 => (if 0 ≤ x6_1 then (if rdOf false l0_2 x6_1 = true then (if x447002_1.length < 140737488355328 then (barscanref37_Outline.l0 k1 (wrap64 (x6_1 + 1)) a0_0 a0_1 l0_2 a0_0 a0_1 (x447002_1 ++ [!t450])) else (none)) else (if x447002_1.length < 140737488355328 then (barscanref37_Outline.l0 k1 (wrap64 (x6_1 + 1)) a0_0 a0_1 l0_2 a0_0 a0_1 (x447002_1 ++ [false])) else (none))) else (none))) else (if 0 ≤ x6_1 then (if rdOf false l0_2 x6_1 = true then (if x447002_1.length < 140737488355328 then (barscanref37_Outline.l0 k1 (wrap64 (x6_1 + 1)) a0_0 a0_1 l0_2 a0_0 a0_1 (x447002_1 ++ [!false])) else (none)) else (if x447002_1.length < 140737488355328 then (barscanref37_Outline.l0 k1 (wrap64 (x6_1 + 1)) a0_0 a0_1 l0_2 a0_0 a0_1 (x447002_1 ++ [false])) else (none))) else (none)))) else (if 0 ≤ x6_1 then (if rdOf false l0_2 x6_1 = true then (if x447002_1.length < 140737488355328 then (barscanref37_Outline.l0 k1 (wrap64 (x6_1 + 1)) a0_0 a0_1 l0_2 a0_0 a0_1 (x447002_1 ++ [!false])) else (none)) else (if x447002_1.length < 140737488355328 then (barscanref37_Outline.l0 k1 (wrap64 (x6_1 + 1)) a0_0 a0_1 l0_2 a0_0 a0_1 (x447002_1 ++ [false])) else (none))) else (none)))) = some (r1, r2, r3, r4) := by rw [if_pos rfl] at H; exact H
       clear H
       have H := H1
       clear H1
       replace H := Option.bind_eq_some_iff.mp H
       obtain ⟨t448, A180, H⟩ := H
       replace H : (if t448 = true then ((barscanref31_At.f a0_0 a0_1 l0_2 (Int.tmod x6_1 a0_0) (wrap64 ((wrap64 (Int.tdiv x6_1 a0_0)) - 1))).bind fun t449 => (if t449 = true then ((barscanref31_At.f a0_0 a0_1 l0_2 (Int.tmod x6_1 a0_0) (wrap64 ((wrap64 (Int.tdiv x6_1 a0_0)) + 1))).bind fun t450 => (if 0 ≤ x6_1 then (if rdOf false l0_2 x6_1 = true then (if x447002_1.length < 140737488355328 then (barscanref37_Outline.l0 k1 (wrap64 (x6_1 + 1)) a0_0 a0_1 l0_2 a0_0 a0_1 (x447002_1 ++ [!t450])) else (none)) else (if x447002_1.length < 140737488355328 then (barscanref37_Outline.l0 k1 (wrap64 (x6_1 + 1)) a0_0 a0_1 l0_2 a0_0 a0_1 (x447002_1 ++ [false])) else (none))) else (none))) else (if 0 ≤ x6_1 then (if rdOf false l0_2 x6_1 = true then (if x447002_1.length < 140737488355328 then (barscanref37_Outline.l0 k1 (wrap64 (x6_1 + 1)) a0_0 a0_1 l0_2 a0_0 a0_1 (x447002_1 ++ [!false])) else (none)) else (if x447002_1.length < 140737488355328 then (barscanref37_Outline.l0 k1 (wrap64 (x6_1 + 1)) a0_0 a0_1 l0_2 a0_0 a0_1 (x447002_1 ++ [false])) else (none))) else (none)))) else (if 0 ≤ x6_1 then (if rdOf false l0_2 x6_1 = true then (if x447002_1.length < 140737488355328 then (barscanref37_Outline.l0 k1 (wrap64 (x6_1 + 1)) a0_0 a0_1 l0_2 a0_0 a0_1 (x447002_1 ++ [!false])) else (none)) else (if x447002_1.length < 140737488355328 then (barscanref37_Outline.l0 k1 (wrap64 (x6_1 + 1)) a0_0 a0_1 l0_2 a0_0 a0_1 (x447002_1 ++ [false])) else (none))) else (none))) = some (r1, r2, r3, r4) := H
       have A18 := Aside0.mk A180
       clear A180
       by_cases c19 : t448 = true
       ·subst c19
        have H1 : ((barscanref31_At.f a0_0 a0_1 l0_2 (Int.tmod x6_1 a0_0) (wrap64 ((wrap64 (Int.tdiv x6_1 a0_0)) - 1))).bind fun t449 => (if t449 = true then ((barscanref31_At.f a0_0 a0_1 l0_2 (Int.tmod x6_1 a0_0) (wrap64 ((wrap64 (Int.tdiv x6_1 a0_0)) + 1))).bind fun t450 => (if 0 ≤ x6_1 then (if rdOf false l0_2 x6_1 = true then (if x447002_1.length < 140737488355328 then (barscanref37_Outline.l0 k1 (wrap64 (x6_1 + 1)) a0_0 a0_1 l0_2 a0_0 a0_1 (x447002_1 ++ [!t450])) else (none)) else (if x447002_1.length < 140737488355328 then (barscanref37_Outline.l0 k1 (wrap64 (x6_1 + 1)) a0_0 a0_1 l0_2 a0_0 a0_1 (x447002_1 ++ [false])) else (none))) else (none))) else (if 0 ≤ x6_1 then (if rdOf false l0_2 x6_1 = true then (if x447002_1.length < 140737488355328 then (barscanref37_Outline.l0 k1 (wrap64 (x6_1 + 1)) a0_0 a0_1 l0_2 a0_0 a0_1 (x447002_1 ++ [!false])) else (none)) else (if x447002_1.length < 140737488355328 then (barscanref37_Outline.l0 k1 (wrap64 (x6_1 + 1)) a0_0 a0_1 l0_2 a0_0 a0_1 (x447002_1 ++ [false])) else (none))) else (none)))) = some (r1, r2, r3, r4) := by rw [if_pos rfl] at H; exact H
        clear H
        have H := H1
        clear H1
        replace H := Option.bind_eq_some_iff.mp H
        obtain ⟨t449, A200, H⟩ := H
        replace H : (if t449 = true then ((barscanref31_At.f a0_0 a0_1 l0_2 (Int.tmod x6_1 a0_0) (wrap64 ((wrap64 (Int.tdiv x6_1 a0_0)) + 1))).bind fun t450 => (if 0 ≤ x6_1 then (if rdOf false l0_2 x6_1 = true then (if x447002_1.length < 140737488355328 then (barscanref37_Outline.l0 k1 (wrap64 (x6_1 + 1)) a0_0 a0_1 l0_2 a0_0 a0_1 (x447002_1 ++ [!t450])) else (none)) else (if x447002_1.length < 140737488355328 then (barscanref37_Outline.l0 k1 (wrap64 (x6_1 + 1)) a0_0 a0_1 l0_2 a0_0 a0_1 (x447002_1 ++ [false])) else (none))) else (none))) else (if 0 ≤ x6_1 then (if rdOf false l0_2 x6_1 = true then (if x447002_1.length < 140737488355328 then (barscanref37_Outline.l0 k1 (wrap64 (x6_1 + 1)) a0_0 a0_1 l0_2 a0_0 a0_1 (x447002_1 ++ [!false])) else (none)) else (if x447002_1.length < 140737488355328 then (barscanref37_Outline.l0 k1 (wrap64 (x6_1 + 1)) a0_0 a0_1 l0_2 a0_0 a0_1 (x447002_1 ++ [false])) else (none))) else (none))) = some (r1, r2, r3, r4) := H
        have A20 := Aside0.mk A200
        clear A200
        by_cases c21 : t449 = true
        ·subst c21
         have H1 : ((barscanref31_At.f a0_0 a0_1 l0_2 (Int.tmod x6_1 a0_0) (wrap64 ((wrap64 (Int.tdiv x6_1 a0_0)) + 1))).bind fun t450 => (if 0 ≤ x6_1 then (if rdOf false l0_2 x6_1 = true then (if x447002_1.length < 140737488355328 then (barscanref37_Outline.l0 k1 (wrap64 (x6_1 + 1)) a0_0 a0_1 l0_2 a0_0 a0_1 (x447002_1 ++ [!t450])) else (none)) else (if x447002_1.length < 140737488355328 then (barscanref37_Outline.l0 k1 (wrap64 (x6_1 + 1)) a0_0 a0_1 l0_2 a0_0 a0_1 (x447002_1 ++ [false])) else (none))) else (none))) = some (r1, r2, r3, r4) := by rw [if_pos rfl] at H; exact H
         clear H
         have H := H1
         clear H1
         replace H := Option.bind_eq_some_iff.mp H
         obtain ⟨t450, A220, H⟩ := H
         replace H : (if 0 ≤ x6_1 then (if rdOf false l0_2 x6_1 = true then (if x447002_1.length < 140737488355328 then (barscanref37_Outline.l0 k1 (wrap64 (x6_1 + 1)) a0_0 a0_1 l0_2 a0_0 a0_1 (x447002_1 ++ [!t450])) else (none)) else (if x447002_1.length < 140737488355328 then (barscanref37_Outline.l0 k1 (wrap64 (x6_1 + 1)) a0_0 a0_1 l0_2 a0_0 a0_1 (x447002_1 ++ [false])) else (none))) else (none)) = some (r1, r2, r3, r4) := H
         have A22 := Aside0.mk A220
         clear A220
         by_cases c23 : 0 ≤ x6_1
         ·rw [if_pos c23] at H
          have c23b0 : decide (0 ≤ x6_1) = true := decide_eq_true c23
          clear c23
          obtain ⟨bq24, hbq24⟩ : ∃ b_ : Bool, b_ = (rdOf false l0_2 x6_1) := ⟨_, rfl⟩
          replace H : (if bq24 = true then (if x447002_1.length < 140737488355328 then (barscanref37_Outline.l0 k1 (wrap64 (x6_1 + 1)) a0_0 a0_1 l0_2 a0_0 a0_1 (x447002_1 ++ [!t450])) else (none)) else (if x447002_1.length < 140737488355328 then (barscanref37_Outline.l0 k1 (wrap64 (x6_1 + 1)) a0_0 a0_1 l0_2 a0_0 a0_1 (x447002_1 ++ [false])) else (none))) = some (r1, r2, r3, r4) := by rw [← hbq24] at H; exact H
          have Nbq24 := Aside0.mk hbq24
          clear hbq24
          by_cases c25 : bq24 = true
          ·subst c25
           have H1 : (if x447002_1.length < 140737488355328 then (barscanref37_Outline.l0 k1 (wrap64 (x6_1 + 1)) a0_0 a0_1 l0_2 a0_0 a0_1 (x447002_1 ++ [!t450])) else (none)) = some (r1, r2, r3, r4) := by rw [if_pos rfl] at H; exact H
           clear H
           have H := H1
           clear H1
           by_cases c26 : x447002_1.length < 140737488355328
           ·rw [if_pos c26] at H
            have LMc26 := Aside0.mk c26
            clear c26
            obtain ⟨y452, hy452⟩ : ∃ y_ : List Bool, y_ = (x447002_1 ++ [!t450]) := ⟨_, rfl⟩
            replace H : (barscanref37_Outline.l0 k1 (wrap64 (x6_1 + 1)) a0_0 a0_1 l0_2 a0_0 a0_1 y452) = some (r1, r2, r3, r4) := by first | (rw [hy452]; with_reducible exact H) | (have H2_ := (Option.bind_some _ _).symm.trans H; rw [hy452]; with_reducible exact H2_) | (have H2_ := (Option.bind_some _ _).symm.trans H; with_reducible exact H2_) | with_reducible exact H | (rw [hy452]; exact H) | exact H
            have Ny452 := Aside0.mk hy452
            clear hy452
            have H' := Aside0.mk H
            clear H
            have hnb27 := NB443_444.out
            have hnc27 := NB444_443.out
            have hnb28 := NB443_446.out
            have hnc28 := NB446_443.out
            have hcz29_0 : wr.cell? ⟨gb443, 0, none⟩ = some (.int .i64 a0_0) := (blk_cell BK443.out 0).trans rfl
            have hcz29_1 : wr.cell? ⟨gb443, 1, none⟩ = some (.int .i64 a0_1) := (blk_cell BK443.out 1).trans rfl
            have hcz29_2 : wr.cell? ⟨gb443, 2, none⟩ = some (.slice A0_2 l0_2.length c0_2) := (blk_cell BK443.out 2).trans rfl
            have hfz29_0 := blk_frozen BK443.out 0
            have hfz29_1 := blk_frozen BK443.out 1
            have hfz29_2 := blk_frozen BK443.out 2
            try go_wp2_with (first | ((with_reducible refine gate_callee (f := 43) rfl ?_); refine goesL_ (some 40) rfl rfl Try.func43 (by kernel_rfl) rfl #[.agg #[.int .i64 a0_0, .int .i64 a0_1, .slice A0_2 l0_2.length c0_2], .int .i64 (wrap64 ((Int.tmod x6_1 a0_0) - 1)), .int .i64 (wrap64 (Int.tdiv x6_1 a0_0))] rfl mapx ?_; (with_reducible refine (barscanref31_At.calls a0_0 a0_1 _ _ l0_2 (wrap64 ((Int.tmod x6_1 a0_0) - 1)) (wrap64 (Int.tdiv x6_1 a0_0)) true _ ?side1 ?side2 A16.out).mono ?_); (case side1 => repeat (first | exact (Kd.C_below HR0_2.out HB.out) | (with_reducible refine Kd.C_alloc ?_ _) | (with_reducible refine Kd.C_drewN ?_ _) | (with_reducible refine Kd.C_drew ?_))); (case side2 => exact HC0_2.out); rintro e w30 ⟨rfl, hb⟩; refine ⟨_, rfl, ?_⟩; have n0_ := Aside0.mk (Kd.R_below (rkx HO_447002) hb); have n1_ := Aside0.mk (blk_below (bkx BK443) hb); have n2_ := Aside0.mk (blk_below (bkx BK444) hb); have n3_ := Aside0.mk (blk_below (bkx BK446) hb); have n4_ := Aside0.mk (below_step (hb3 HB GE443 GE444 GE446) hb); clear HO_447002; clear BK443; clear BK444; clear BK446; clear HB; have HO_447002 := n0_; have BK443 := n1_; have BK444 := n2_; have BK446 := n3_; have HB := n4_; clear n0_ n1_ n2_ n3_ n4_; (try clear hb); (try clear hb2); (try clear hk); (try clear hi); have hcz31_0 : w30.cell? ⟨gb443, 0, none⟩ = some (.int .i64 a0_0) := (blk_cell BK443.out 0).trans rfl; have hcz31_1 : w30.cell? ⟨gb443, 1, none⟩ = some (.int .i64 a0_1) := (blk_cell BK443.out 1).trans rfl; have hcz31_2 : w30.cell? ⟨gb443, 2, none⟩ = some (.slice A0_2 l0_2.length c0_2) := (blk_cell BK443.out 2).trans rfl; have hfz31_0 := blk_frozen BK443.out 0; have hfz31_1 := blk_frozen BK443.out 1; have hfz31_2 := blk_frozen BK443.out 2) | (go_at_call 43; (with_reducible refine (barscanref31_At.calls a0_0 a0_1 _ _ l0_2 (wrap64 ((Int.tmod x6_1 a0_0) + 1)) (wrap64 (Int.tdiv x6_1 a0_0)) true _ ?side1 ?side2 A18.out).mono ?_); (case side1 => repeat (first | exact (Kd.C_below HR0_2.out HB.out) | (with_reducible refine Kd.C_alloc ?_ _) | (with_reducible refine Kd.C_drewN ?_ _) | (with_reducible refine Kd.C_drew ?_))); (case side2 => exact HC0_2.out); rintro e w32 ⟨rfl, hb⟩; have n0_ := Aside0.mk (Kd.R_below (rkx HO_447002) hb); have n1_ := Aside0.mk (blk_below (bkx BK443) hb); have n2_ := Aside0.mk (blk_below (bkx BK444) hb); have n3_ := Aside0.mk (blk_below (bkx BK446) hb); have n4_ := Aside0.mk (below_step (hb3 HB GE443 GE444 GE446) hb); clear HO_447002; clear BK443; clear BK444; clear BK446; clear HB; have HO_447002 := n0_; have BK443 := n1_; have BK444 := n2_; have BK446 := n3_; have HB := n4_; clear n0_ n1_ n2_ n3_ n4_; (try clear hb); (try clear hb2); (try clear hk); (try clear hi); have hcz33_0 : w32.cell? ⟨gb443, 0, none⟩ = some (.int .i64 a0_0) := (blk_cell BK443.out 0).trans rfl; have hcz33_1 : w32.cell? ⟨gb443, 1, none⟩ = some (.int .i64 a0_1) := (blk_cell BK443.out 1).trans rfl; have hcz33_2 : w32.cell? ⟨gb443, 2, none⟩ = some (.slice A0_2 l0_2.length c0_2) := (blk_cell BK443.out 2).trans rfl; have hfz33_0 := blk_frozen BK443.out 0; have hfz33_1 := blk_frozen BK443.out 1; have hfz33_2 := blk_frozen BK443.out 2) | (go_at_call 43; (with_reducible refine (barscanref31_At.calls a0_0 a0_1 _ _ l0_2 (Int.tmod x6_1 a0_0) (wrap64 ((wrap64 (Int.tdiv x6_1 a0_0)) - 1)) true _ ?side1 ?side2 A20.out).mono ?_); (case side1 => repeat (first | exact (Kd.C_below HR0_2.out HB.out) | (with_reducible refine Kd.C_alloc ?_ _) | (with_reducible refine Kd.C_drewN ?_ _) | (with_reducible refine Kd.C_drew ?_))); (case side2 => exact HC0_2.out); rintro e w34 ⟨rfl, hb⟩; have n0_ := Aside0.mk (Kd.R_below (rkx HO_447002) hb); have n1_ := Aside0.mk (blk_below (bkx BK443) hb); have n2_ := Aside0.mk (blk_below (bkx BK444) hb); have n3_ := Aside0.mk (blk_below (bkx BK446) hb); have n4_ := Aside0.mk (below_step (hb3 HB GE443 GE444 GE446) hb); clear HO_447002; clear BK443; clear BK444; clear BK446; clear HB; have HO_447002 := n0_; have BK443 := n1_; have BK444 := n2_; have BK446 := n3_; have HB := n4_; clear n0_ n1_ n2_ n3_ n4_; (try clear hb); (try clear hb2); (try clear hk); (try clear hi); have hcz35_0 : w34.cell? ⟨gb443, 0, none⟩ = some (.int .i64 a0_0) := (blk_cell BK443.out 0).trans rfl; have hcz35_1 : w34.cell? ⟨gb443, 1, none⟩ = some (.int .i64 a0_1) := (blk_cell BK443.out 1).trans rfl; have hcz35_2 : w34.cell? ⟨gb443, 2, none⟩ = some (.slice A0_2 l0_2.length c0_2) := (blk_cell BK443.out 2).trans rfl; have hfz35_0 := blk_frozen BK443.out 0; have hfz35_1 := blk_frozen BK443.out 1; have hfz35_2 := blk_frozen BK443.out 2) | (go_at_call 43; (with_reducible refine (barscanref31_At.calls a0_0 a0_1 _ _ l0_2 (Int.tmod x6_1 a0_0) (wrap64 ((wrap64 (Int.tdiv x6_1 a0_0)) + 1)) t450 _ ?side1 ?side2 A22.out).mono ?_); (case side1 => repeat (first | exact (Kd.C_below HR0_2.out HB.out) | (with_reducible refine Kd.C_alloc ?_ _) | (with_reducible refine Kd.C_drewN ?_ _) | (with_reducible refine Kd.C_drew ?_))); (case side2 => exact HC0_2.out); rintro e w36 ⟨rfl, hb⟩; have n0_ := Aside0.mk (Kd.R_below (rkx HO_447002) hb); have n1_ := Aside0.mk (blk_below (bkx BK443) hb); have n2_ := Aside0.mk (blk_below (bkx BK444) hb); have n3_ := Aside0.mk (blk_below (bkx BK446) hb); have n4_ := Aside0.mk (below_step (hb3 HB GE443 GE444 GE446) hb); clear HO_447002; clear BK443; clear BK444; clear BK446; clear HB; have HO_447002 := n0_; have BK443 := n1_; have BK444 := n2_; have BK446 := n3_; have HB := n4_; clear n0_ n1_ n2_ n3_ n4_; (try clear hb); (try clear hb2); (try clear hk); (try clear hi)))
            have n0_ := Aside0.mk (Kd.R_drew HO_447002.out)
            have n1_ := Aside0.mk (blk_drew BK443.out)
            have n2_ := Aside0.mk (blk_drew BK444.out)
            have n3_ := Aside0.mk (blk_drew BK446.out)
            have n4_ := Aside0.mk (below_drew1 HB.out)
            clear HO_447002
            clear BK443
            clear BK444
            clear BK446
            clear HB
            have HO_447002 := n0_
            have BK443 := n1_
            have BK444 := n2_
            have BK446 := n3_
            have HB := n4_
            clear n0_ n1_ n2_ n3_ n4_
            have p451 : 0 ≤ (x6_1 : Int) := of_decide_eq_true (by first | (with_reducible assumption) | assumption)
            have q451 : x6_1 < (l0_2.length : Int) := of_decide_eq_true (by first | (with_reducible assumption) | assumption)
            obtain ⟨ad451, e451, hx451_0⟩ := Kd.at_bool HR0_2.out x6_1 p451 q451
            have hw451_0 := hx451_0
            (try rw [← Nbq24.out] at hw451_0)
            (try rw [← Nbq24.out] at hx451_0)
            cases e451
            replace hx451_0 := (HB.out.cell (World.block_lt_of_cell? w _ hx451_0)).trans hx451_0
            replace p451 := eq_true p451
            replace q451 := eq_true q451
            refine start_ (n := 15) (S := fun w' => w'.cell? ⟨gb446, 0, none⟩ = some (.int .i64 a0_0) ∧ w'.cell? ⟨gb446, 1, none⟩ = some (.int .i64 a0_1) ∧ w'.cell? ⟨gb446, 2, none⟩ = some (u447002) ∧ w'.cell? ⟨gb443, 0, none⟩ = some (.int .i64 a0_0) ∧ w'.cell? ⟨gb443, 1, none⟩ = some (.int .i64 a0_1) ∧ w'.cell? ⟨gb443, 2, none⟩ = some (.slice (some ad451) l0_2.length c0_2) ∧ w'.cell? (ad451.add (x6_1).toNat) = some (.bool true)) (ds := [14]) (bA 15 0) (by kernel_rfl) rfl rfl ⟨(blk_cell BK446.out 0).trans rfl, (blk_cell BK446.out 1).trans rfl, (blk_cell BK446.out 2).trans rfl, (blk_cell BK443.out 0).trans rfl, (blk_cell BK443.out 1).trans rfl, (blk_cell BK443.out 2).trans rfl, ((HB.out.cell (World.block_lt_of_cell? w _ hw451_0)).trans hw451_0)⟩ (fun hHeld => ?_); refine with_tabW barscanref37_Outline.tab11 barscanref37_Outline.bits11 (fun HT_ HW_ => ?_)
            generalize w36.drew = w37 at HO_447002 BK443 BK444 BK446 HB hx451_0 hHeld ⊢
            refine pt HT_ 0 62 ?_
            refine pt HT_ 2 64 ?_
            refine pt HT_ 4 66 ?_
            refine tk HT_ HW_ hHeld 1 63 ?_
            refine tk HT_ HW_ hHeld 3 65 ?_
            refine pt HT_ 5 67 ?_
            refine tk HT_ HW_ hHeld 6 68 ?_
            refine pt HT_ 7 69 ?_
            refine pt HT_ 8 70 ?_
            refine pt HT_ 9 71 ?_
            refine pt HT_ 10 72 ?_
            refine one_ (i := 11) (N := some 73) (bA 15 4095) rfl rfl (one_of HT_.out (by kernel_rfl)) (by decide) (fun K hK => ?_)
            refine value_ (w1 := ?_) (v := ?_) (by rfl) rfl ?_ ?_
            rotate_left 2
            ·go_simp
             constructor
             ·rfl
             ·rfl
            refine hK.out _ _ ⟨(blk_cell (blk_alloc BK446.out _) 0).trans rfl, (blk_cell (blk_alloc BK446.out _) 1).trans rfl, (blk_cell (blk_alloc BK446.out _) 2).trans rfl, (blk_cell (blk_alloc BK443.out _) 0).trans rfl, (blk_cell (blk_alloc BK443.out _) 1).trans rfl, (blk_cell (blk_alloc BK443.out _) 2).trans rfl, (World.cell?_alloc_lt _ _ _ (World.block_lt_of_cell? _ _ (((HB.out.cell (World.block_lt_of_cell? w _ hw451_0)).trans hw451_0)))).trans (((HB.out.cell (World.block_lt_of_cell? w _ hw451_0)).trans hw451_0))⟩ (fun hHeld => ?_)
            clear hK K
            refine norm_ (a' := ?_) ?_ ?_
            rotate_left
            ·show Act.put _ (some 73) _ = _
             simp only [Act.put, List.setIfInBounds_toArray, List.set_cons_zero, List.set_cons_succ, i64_w, i32_w]
             rfl
            refine one_ (i := 12) (N := some 74) (bA 15 8191) rfl rfl (one_of HT_.out (by kernel_rfl)) (by decide) (fun K hK => ?_)
            refine Kd.R_append_step Kd.bool (w0 := w) w.heap.size (by rfl) (.tmp 63) (.tmp 73) 22 4 (.bool false) 1 rfl Try.underlying22 info4 rfl (by decide) (by omega) u447002 x447002_1 (!t450) [.bool (!t450)] (fun _ => True) (fun _ => False) rfl rfl ?aP (fun _ hk => hk.elim) ?aF ?aO ?aB ?aS ?aL ?_
            (case aP => exact rfl)
            (case aB => exact (hb3 HB GE443 GE444 GE446))
            (case aF => exact (fun _ _ => trivial))
            (case aO => exact (rkx HO_447002))
            (case aS => exact (below_size (hb3 HB GE443 GE444 GE446)))
            (case aL => have := LMc26.out; omega)
            intro v453 w38 ho hb hg hat
            rw [← Ny452.out] at ho
            have n0_ := Aside0.mk (blk_grown (g := gb443) (o := .cells #[.int .i64 a0_0, .int .i64 a0_1, .slice (some ad451) l0_2.length c0_2] 24 (0, 0)) (bkx BK443) hg (Kd.R_ne HO_447002.out BK443.out (by decide)))
            have n1_ := Aside0.mk (blk_grown (g := gb444) (o := .cells #[.int .i64 0, .int .i64 0, .slice none 0 0] 24 (0, 0)) (bkx BK444) hg (Kd.R_ne HO_447002.out BK444.out (by decide)))
            have n2_ := Aside0.mk (blk_grown (g := gb446) (o := .cells #[.int .i64 a0_0, .int .i64 a0_1, u447002] 24 (0, 0)) (bkx BK446) hg (Kd.R_ne HO_447002.out BK446.out (by decide)))
            have n3_ := Aside0.mk (hb)
            have n4_ := Aside0.mk (ho)
            clear BK443
            clear BK444
            clear BK446
            clear HB
            clear HO_447002
            have BK443 := n0_
            have BK444 := n1_
            have BK446 := n2_
            have HB := n3_
            have HO454 := n4_
            clear n0_ n1_ n2_ n3_ n4_
            clear ho hb hg hat
            obtain ⟨Ao39, co39, eo39⟩ := Kd.R_slice HO454.out
            (first | subst eo39 | (injection eo39 with f1_ f2_ f3_; have f4_ := f1_.symm; have f5_ := f3_.symm; clear f1_ f2_ f3_; subst f4_; subst f5_))
            refine hK.out _ _ ⟨(blk_cell BK446.out 0).trans rfl, (blk_cell BK446.out 1).trans rfl, (blk_cell BK446.out 2).trans rfl, (blk_cell BK443.out 0).trans rfl, (blk_cell BK443.out 1).trans rfl, (blk_cell BK443.out 2).trans rfl, ((HB.out.cell (World.block_lt_of_cell? w _ hw451_0)).trans hw451_0)⟩ (fun hHeld => ?_)
            clear hK K
            refine norm_ (a' := ?_) ?_ ?_
            rotate_left
            ·show Act.put _ (some 74) _ = _
             simp only [Act.put, List.setIfInBounds_toArray, List.set_cons_zero, List.set_cons_succ, i64_w, i32_w]
             rfl
            refine pt HT_ 13 75 ?_
            refine last_ (i := 14) (N := none) (bA 15 32767) rfl rfl (one_of HT_.out (by kernel_rfl)) (by decide) (fun K hK => ?_)
            have hs40 : w38.cell? ⟨gb446, 2, none⟩ = some (u447002) := (blk_cell BK446.out 2).trans rfl
            have hfs40 := blk_frozen BK446.out 2
            have hns40_0 := NB443_446.out
            have hns40_1 := NB444_446.out
            have hms40_0 := NB446_443.out
            have hms40_1 := NB446_444.out
            refine skip_ (w1 := ?_) (by rfl) rfl ?_ ?_
            rotate_left
            ·go_simp
             rfl
            refine hK.out _ _ ?_
            clear hK K
            refine done_ (done_of HT_.out (by kernel_rfl)) ?_
            try go_wp2
            go_roundg k1
            case measure => have := HK1.out; omega
            case rel => exact ⟨(wrap64 (x6_1 + 1)), (y452), (.slice Ao39 y452.length co39), (by first | rfl | (simp; done) | (simp [*]; done)), H', ⟨by have := HK1.out; omega⟩, ⟨by refine rkt ?_; exact Kd.R_mono (Kd.R_far (p := ⟨gb446, 2, none⟩) (Kd.R_types HO454.out BK446.out (by decide)) (fun _ hk => hk.2) (.slice Ao39 y452.length co39)) (fun _ hk => trivial)⟩, ⟨bky BK443 NB443_446⟩, ⟨bky BK444 NB444_446⟩, ⟨by refine bkt ?_; refine blk_put (cs := #[.int .i64 a0_0, .int .i64 a0_1, u447002]) ?_ 2 _ rfl; refine bkt ?_; exact BK446.out⟩, ⟨hb3 HB GE443 GE444 GE446⟩⟩
           ·rw [if_neg c26] at H
            exact absurd H (by simp)
          ·replace c25 := Bool.eq_false_iff.mpr c25
           subst c25
           have H1 : (if x447002_1.length < 140737488355328 then (barscanref37_Outline.l0 k1 (wrap64 (x6_1 + 1)) a0_0 a0_1 l0_2 a0_0 a0_1 (x447002_1 ++ [false])) else (none)) = some (r1, r2, r3, r4) := by rw [if_neg (show ¬ (false = true) by decide)] at H; exact H
           clear H
           have H := H1
           clear H1
           by_cases c41 : x447002_1.length < 140737488355328
           ·rw [if_pos c41] at H
            have LMc41 := Aside0.mk c41
            clear c41
            obtain ⟨y455, hy455⟩ : ∃ y_ : List Bool, y_ = (x447002_1 ++ [false]) := ⟨_, rfl⟩
            replace H : (barscanref37_Outline.l0 k1 (wrap64 (x6_1 + 1)) a0_0 a0_1 l0_2 a0_0 a0_1 y455) = some (r1, r2, r3, r4) := by first | (rw [hy455]; with_reducible exact H) | (have H2_ := (Option.bind_some _ _).symm.trans H; rw [hy455]; with_reducible exact H2_) | (have H2_ := (Option.bind_some _ _).symm.trans H; with_reducible exact H2_) | with_reducible exact H | (rw [hy455]; exact H) | exact H
            have Ny455 := Aside0.mk hy455
            clear hy455
            have H' := Aside0.mk H
            clear H
            have hnb42 := NB443_444.out
            have hnc42 := NB444_443.out
            have hnb43 := NB443_446.out
            have hnc43 := NB446_443.out
            have hcz44_0 : wr.cell? ⟨gb443, 0, none⟩ = some (.int .i64 a0_0) := (blk_cell BK443.out 0).trans rfl
            have hcz44_1 : wr.cell? ⟨gb443, 1, none⟩ = some (.int .i64 a0_1) := (blk_cell BK443.out 1).trans rfl
            have hcz44_2 : wr.cell? ⟨gb443, 2, none⟩ = some (.slice A0_2 l0_2.length c0_2) := (blk_cell BK443.out 2).trans rfl
            have hfz44_0 := blk_frozen BK443.out 0
            have hfz44_1 := blk_frozen BK443.out 1
            have hfz44_2 := blk_frozen BK443.out 2
            try go_wp2_with (first | ((with_reducible refine gate_callee (f := 43) rfl ?_); refine goesL_ (some 40) rfl rfl Try.func43 (by kernel_rfl) rfl #[.agg #[.int .i64 a0_0, .int .i64 a0_1, .slice A0_2 l0_2.length c0_2], .int .i64 (wrap64 ((Int.tmod x6_1 a0_0) - 1)), .int .i64 (wrap64 (Int.tdiv x6_1 a0_0))] rfl mapx ?_; (with_reducible refine (barscanref31_At.calls a0_0 a0_1 _ _ l0_2 (wrap64 ((Int.tmod x6_1 a0_0) - 1)) (wrap64 (Int.tdiv x6_1 a0_0)) true _ ?side1 ?side2 A16.out).mono ?_); (case side1 => repeat (first | exact (Kd.C_below HR0_2.out HB.out) | (with_reducible refine Kd.C_alloc ?_ _) | (with_reducible refine Kd.C_drewN ?_ _) | (with_reducible refine Kd.C_drew ?_))); (case side2 => exact HC0_2.out); rintro e w45 ⟨rfl, hb⟩; refine ⟨_, rfl, ?_⟩; have n0_ := Aside0.mk (Kd.R_below (rkx HO_447002) hb); have n1_ := Aside0.mk (blk_below (bkx BK443) hb); have n2_ := Aside0.mk (blk_below (bkx BK444) hb); have n3_ := Aside0.mk (blk_below (bkx BK446) hb); have n4_ := Aside0.mk (below_step (hb3 HB GE443 GE444 GE446) hb); clear HO_447002; clear BK443; clear BK444; clear BK446; clear HB; have HO_447002 := n0_; have BK443 := n1_; have BK444 := n2_; have BK446 := n3_; have HB := n4_; clear n0_ n1_ n2_ n3_ n4_; (try clear hb); (try clear hb2); (try clear hk); (try clear hi); have hcz46_0 : w45.cell? ⟨gb443, 0, none⟩ = some (.int .i64 a0_0) := (blk_cell BK443.out 0).trans rfl; have hcz46_1 : w45.cell? ⟨gb443, 1, none⟩ = some (.int .i64 a0_1) := (blk_cell BK443.out 1).trans rfl; have hcz46_2 : w45.cell? ⟨gb443, 2, none⟩ = some (.slice A0_2 l0_2.length c0_2) := (blk_cell BK443.out 2).trans rfl; have hfz46_0 := blk_frozen BK443.out 0; have hfz46_1 := blk_frozen BK443.out 1; have hfz46_2 := blk_frozen BK443.out 2) | (go_at_call 43; (with_reducible refine (barscanref31_At.calls a0_0 a0_1 _ _ l0_2 (wrap64 ((Int.tmod x6_1 a0_0) + 1)) (wrap64 (Int.tdiv x6_1 a0_0)) true _ ?side1 ?side2 A18.out).mono ?_); (case side1 => repeat (first | exact (Kd.C_below HR0_2.out HB.out) | (with_reducible refine Kd.C_alloc ?_ _) | (with_reducible refine Kd.C_drewN ?_ _) | (with_reducible refine Kd.C_drew ?_))); (case side2 => exact HC0_2.out); rintro e w47 ⟨rfl, hb⟩; have n0_ := Aside0.mk (Kd.R_below (rkx HO_447002) hb); have n1_ := Aside0.mk (blk_below (bkx BK443) hb); have n2_ := Aside0.mk (blk_below (bkx BK444) hb); have n3_ := Aside0.mk (blk_below (bkx BK446) hb); have n4_ := Aside0.mk (below_step (hb3 HB GE443 GE444 GE446) hb); clear HO_447002; clear BK443; clear BK444; clear BK446; clear HB; have HO_447002 := n0_; have BK443 := n1_; have BK444 := n2_; have BK446 := n3_; have HB := n4_; clear n0_ n1_ n2_ n3_ n4_; (try clear hb); (try clear hb2); (try clear hk); (try clear hi); have hcz48_0 : w47.cell? ⟨gb443, 0, none⟩ = some (.int .i64 a0_0) := (blk_cell BK443.out 0).trans rfl; have hcz48_1 : w47.cell? ⟨gb443, 1, none⟩ = some (.int .i64 a0_1) := (blk_cell BK443.out 1).trans rfl; have hcz48_2 : w47.cell? ⟨gb443, 2, none⟩ = some (.slice A0_2 l0_2.length c0_2) := (blk_cell BK443.out 2).trans rfl; have hfz48_0 := blk_frozen BK443.out 0; have hfz48_1 := blk_frozen BK443.out 1; have hfz48_2 := blk_frozen BK443.out 2) | (go_at_call 43; (with_reducible refine (barscanref31_At.calls a0_0 a0_1 _ _ l0_2 (Int.tmod x6_1 a0_0) (wrap64 ((wrap64 (Int.tdiv x6_1 a0_0)) - 1)) true _ ?side1 ?side2 A20.out).mono ?_); (case side1 => repeat (first | exact (Kd.C_below HR0_2.out HB.out) | (with_reducible refine Kd.C_alloc ?_ _) | (with_reducible refine Kd.C_drewN ?_ _) | (with_reducible refine Kd.C_drew ?_))); (case side2 => exact HC0_2.out); rintro e w49 ⟨rfl, hb⟩; have n0_ := Aside0.mk (Kd.R_below (rkx HO_447002) hb); have n1_ := Aside0.mk (blk_below (bkx BK443) hb); have n2_ := Aside0.mk (blk_below (bkx BK444) hb); have n3_ := Aside0.mk (blk_below (bkx BK446) hb); have n4_ := Aside0.mk (below_step (hb3 HB GE443 GE444 GE446) hb); clear HO_447002; clear BK443; clear BK444; clear BK446; clear HB; have HO_447002 := n0_; have BK443 := n1_; have BK444 := n2_; have BK446 := n3_; have HB := n4_; clear n0_ n1_ n2_ n3_ n4_; (try clear hb); (try clear hb2); (try clear hk); (try clear hi); have hcz50_0 : w49.cell? ⟨gb443, 0, none⟩ = some (.int .i64 a0_0) := (blk_cell BK443.out 0).trans rfl; have hcz50_1 : w49.cell? ⟨gb443, 1, none⟩ = some (.int .i64 a0_1) := (blk_cell BK443.out 1).trans rfl; have hcz50_2 : w49.cell? ⟨gb443, 2, none⟩ = some (.slice A0_2 l0_2.length c0_2) := (blk_cell BK443.out 2).trans rfl; have hfz50_0 := blk_frozen BK443.out 0; have hfz50_1 := blk_frozen BK443.out 1; have hfz50_2 := blk_frozen BK443.out 2) | (go_at_call 43; (with_reducible refine (barscanref31_At.calls a0_0 a0_1 _ _ l0_2 (Int.tmod x6_1 a0_0) (wrap64 ((wrap64 (Int.tdiv x6_1 a0_0)) + 1)) t450 _ ?side1 ?side2 A22.out).mono ?_); (case side1 => repeat (first | exact (Kd.C_below HR0_2.out HB.out) | (with_reducible refine Kd.C_alloc ?_ _) | (with_reducible refine Kd.C_drewN ?_ _) | (with_reducible refine Kd.C_drew ?_))); (case side2 => exact HC0_2.out); rintro e w51 ⟨rfl, hb⟩; have n0_ := Aside0.mk (Kd.R_below (rkx HO_447002) hb); have n1_ := Aside0.mk (blk_below (bkx BK443) hb); have n2_ := Aside0.mk (blk_below (bkx BK444) hb); have n3_ := Aside0.mk (blk_below (bkx BK446) hb); have n4_ := Aside0.mk (below_step (hb3 HB GE443 GE444 GE446) hb); clear HO_447002; clear BK443; clear BK444; clear BK446; clear HB; have HO_447002 := n0_; have BK443 := n1_; have BK444 := n2_; have BK446 := n3_; have HB := n4_; clear n0_ n1_ n2_ n3_ n4_; (try clear hb); (try clear hb2); (try clear hk); (try clear hi)))
            have n0_ := Aside0.mk (Kd.R_drew HO_447002.out)
            have n1_ := Aside0.mk (blk_drew BK443.out)
            have n2_ := Aside0.mk (blk_drew BK444.out)
            have n3_ := Aside0.mk (blk_drew BK446.out)
            have n4_ := Aside0.mk (below_drew1 HB.out)
            clear HO_447002
            clear BK443
            clear BK444
            clear BK446
            clear HB
            have HO_447002 := n0_
            have BK443 := n1_
            have BK444 := n2_
            have BK446 := n3_
            have HB := n4_
            clear n0_ n1_ n2_ n3_ n4_
            have p451 : 0 ≤ (x6_1 : Int) := of_decide_eq_true (by first | (with_reducible assumption) | assumption)
            have q451 : x6_1 < (l0_2.length : Int) := of_decide_eq_true (by first | (with_reducible assumption) | assumption)
            obtain ⟨ad451, e451, hx451_0⟩ := Kd.at_bool HR0_2.out x6_1 p451 q451
            have hw451_0 := hx451_0
            (try rw [← Nbq24.out] at hw451_0)
            (try rw [← Nbq24.out] at hx451_0)
            cases e451
            replace hx451_0 := (HB.out.cell (World.block_lt_of_cell? w _ hx451_0)).trans hx451_0
            replace p451 := eq_true p451
            replace q451 := eq_true q451
            refine start_ (n := 15) (S := fun w' => w'.cell? ⟨gb446, 0, none⟩ = some (.int .i64 a0_0) ∧ w'.cell? ⟨gb446, 1, none⟩ = some (.int .i64 a0_1) ∧ w'.cell? ⟨gb446, 2, none⟩ = some (u447002) ∧ w'.cell? ⟨gb443, 0, none⟩ = some (.int .i64 a0_0) ∧ w'.cell? ⟨gb443, 1, none⟩ = some (.int .i64 a0_1) ∧ w'.cell? ⟨gb443, 2, none⟩ = some (.slice (some ad451) l0_2.length c0_2) ∧ w'.cell? (ad451.add (x6_1).toNat) = some (.bool false)) (ds := [14]) (bA 15 0) (by kernel_rfl) rfl rfl ⟨(blk_cell BK446.out 0).trans rfl, (blk_cell BK446.out 1).trans rfl, (blk_cell BK446.out 2).trans rfl, (blk_cell BK443.out 0).trans rfl, (blk_cell BK443.out 1).trans rfl, (blk_cell BK443.out 2).trans rfl, ((HB.out.cell (World.block_lt_of_cell? w _ hw451_0)).trans hw451_0)⟩ (fun hHeld => ?_); refine with_tabW barscanref37_Outline.tab11 barscanref37_Outline.bits11 (fun HT_ HW_ => ?_)
            generalize w51.drew = w52 at HO_447002 BK443 BK444 BK446 HB hx451_0 hHeld ⊢
            refine pt HT_ 0 62 ?_
            refine pt HT_ 2 64 ?_
            refine pt HT_ 4 66 ?_
            refine tk HT_ HW_ hHeld 1 63 ?_
            refine tk HT_ HW_ hHeld 3 65 ?_
            refine pt HT_ 5 67 ?_
            refine tk HT_ HW_ hHeld 6 68 ?_
            refine pt HT_ 7 69 ?_
            refine pure_ (i := 8) (N := some 70) (v := undef) (a' := ?_) (bA 15 511) rfl rfl (any_of HT_.out (by kernel_rfl)) (fun _ _ _ h => h) (Or.inr ⟨by rfl, rfl⟩) ?_ ?_
            rotate_left
            ·simp only [Act.put, List.setIfInBounds_toArray, List.set_cons_zero, List.set_cons_succ, i64_w, i32_w]
             rfl
            refine pure_ (i := 9) (N := some 71) (v := undef) (a' := ?_) (bA 15 1023) rfl rfl (any_of HT_.out (by kernel_rfl)) (fun _ _ _ h => h) (Or.inr ⟨by rfl, rfl⟩) ?_ ?_
            rotate_left
            ·simp only [Act.put, List.setIfInBounds_toArray, List.set_cons_zero, List.set_cons_succ, i64_w, i32_w]
             rfl
            refine pt HT_ 10 72 ?_
            refine one_ (i := 11) (N := some 73) (bA 15 4095) rfl rfl (one_of HT_.out (by kernel_rfl)) (by decide) (fun K hK => ?_)
            refine value_ (w1 := ?_) (v := ?_) (by rfl) rfl ?_ ?_
            rotate_left 2
            ·go_simp
             constructor
             ·rfl
             ·rfl
            refine hK.out _ _ ⟨(blk_cell (blk_alloc BK446.out _) 0).trans rfl, (blk_cell (blk_alloc BK446.out _) 1).trans rfl, (blk_cell (blk_alloc BK446.out _) 2).trans rfl, (blk_cell (blk_alloc BK443.out _) 0).trans rfl, (blk_cell (blk_alloc BK443.out _) 1).trans rfl, (blk_cell (blk_alloc BK443.out _) 2).trans rfl, (World.cell?_alloc_lt _ _ _ (World.block_lt_of_cell? _ _ (((HB.out.cell (World.block_lt_of_cell? w _ hw451_0)).trans hw451_0)))).trans (((HB.out.cell (World.block_lt_of_cell? w _ hw451_0)).trans hw451_0))⟩ (fun hHeld => ?_)
            clear hK K
            refine norm_ (a' := ?_) ?_ ?_
            rotate_left
            ·show Act.put _ (some 73) _ = _
             simp only [Act.put, List.setIfInBounds_toArray, List.set_cons_zero, List.set_cons_succ, i64_w, i32_w]
             rfl
            refine one_ (i := 12) (N := some 74) (bA 15 8191) rfl rfl (one_of HT_.out (by kernel_rfl)) (by decide) (fun K hK => ?_)
            refine Kd.R_append_step Kd.bool (w0 := w) w.heap.size (by rfl) (.tmp 63) (.tmp 73) 22 4 (.bool false) 1 rfl Try.underlying22 info4 rfl (by decide) (by omega) u447002 x447002_1 false [.bool false] (fun _ => True) (fun _ => False) rfl rfl ?aP (fun _ hk => hk.elim) ?aF ?aO ?aB ?aS ?aL ?_
            (case aP => exact rfl)
            (case aB => exact (hb3 HB GE443 GE444 GE446))
            (case aF => exact (fun _ _ => trivial))
            (case aO => exact (rkx HO_447002))
            (case aS => exact (below_size (hb3 HB GE443 GE444 GE446)))
            (case aL => have := LMc41.out; omega)
            intro v456 w53 ho hb hg hat
            rw [← Ny455.out] at ho
            have n0_ := Aside0.mk (blk_grown (g := gb443) (o := .cells #[.int .i64 a0_0, .int .i64 a0_1, .slice (some ad451) l0_2.length c0_2] 24 (0, 0)) (bkx BK443) hg (Kd.R_ne HO_447002.out BK443.out (by decide)))
            have n1_ := Aside0.mk (blk_grown (g := gb444) (o := .cells #[.int .i64 0, .int .i64 0, .slice none 0 0] 24 (0, 0)) (bkx BK444) hg (Kd.R_ne HO_447002.out BK444.out (by decide)))
            have n2_ := Aside0.mk (blk_grown (g := gb446) (o := .cells #[.int .i64 a0_0, .int .i64 a0_1, u447002] 24 (0, 0)) (bkx BK446) hg (Kd.R_ne HO_447002.out BK446.out (by decide)))
            have n3_ := Aside0.mk (hb)
            have n4_ := Aside0.mk (ho)
            clear BK443
            clear BK444
            clear BK446
            clear HB
            clear HO_447002
            have BK443 := n0_
            have BK444 := n1_
            have BK446 := n2_
            have HB := n3_
            have HO457 := n4_
            clear n0_ n1_ n2_ n3_ n4_
            clear ho hb hg hat
            obtain ⟨Ao54, co54, eo54⟩ := Kd.R_slice HO457.out
            (first | subst eo54 | (injection eo54 with f1_ f2_ f3_; have f4_ := f1_.symm; have f5_ := f3_.symm; clear f1_ f2_ f3_; subst f4_; subst f5_))
            refine hK.out _ _ ⟨(blk_cell BK446.out 0).trans rfl, (blk_cell BK446.out 1).trans rfl, (blk_cell BK446.out 2).trans rfl, (blk_cell BK443.out 0).trans rfl, (blk_cell BK443.out 1).trans rfl, (blk_cell BK443.out 2).trans rfl, ((HB.out.cell (World.block_lt_of_cell? w _ hw451_0)).trans hw451_0)⟩ (fun hHeld => ?_)
            clear hK K
            refine norm_ (a' := ?_) ?_ ?_
            rotate_left
            ·show Act.put _ (some 74) _ = _
             simp only [Act.put, List.setIfInBounds_toArray, List.set_cons_zero, List.set_cons_succ, i64_w, i32_w]
             rfl
            refine pt HT_ 13 75 ?_
            refine last_ (i := 14) (N := none) (bA 15 32767) rfl rfl (one_of HT_.out (by kernel_rfl)) (by decide) (fun K hK => ?_)
            have hs55 : w53.cell? ⟨gb446, 2, none⟩ = some (u447002) := (blk_cell BK446.out 2).trans rfl
            have hfs55 := blk_frozen BK446.out 2
            have hns55_0 := NB443_446.out
            have hns55_1 := NB444_446.out
            have hms55_0 := NB446_443.out
            have hms55_1 := NB446_444.out
            refine skip_ (w1 := ?_) (by rfl) rfl ?_ ?_
            rotate_left
            ·go_simp
             rfl
            refine hK.out _ _ ?_
            clear hK K
            refine done_ (done_of HT_.out (by kernel_rfl)) ?_
            try go_wp2
            go_roundg k1
            case measure => have := HK1.out; omega
            case rel => exact ⟨(wrap64 (x6_1 + 1)), (y455), (.slice Ao54 y455.length co54), (by first | rfl | (simp; done) | (simp [*]; done)), H', ⟨by have := HK1.out; omega⟩, ⟨by refine rkt ?_; exact Kd.R_mono (Kd.R_far (p := ⟨gb446, 2, none⟩) (Kd.R_types HO457.out BK446.out (by decide)) (fun _ hk => hk.2) (.slice Ao54 y455.length co54)) (fun _ hk => trivial)⟩, ⟨bky BK443 NB443_446⟩, ⟨bky BK444 NB444_446⟩, ⟨by refine bkt ?_; refine blk_put (cs := #[.int .i64 a0_0, .int .i64 a0_1, u447002]) ?_ 2 _ rfl; refine bkt ?_; exact BK446.out⟩, ⟨hb3 HB GE443 GE444 GE446⟩⟩
           ·rw [if_neg c41] at H
            exact absurd H (by simp)
         ·rw [if_neg c23] at H
          exact absurd H (by simp)
        ·replace c21 := Bool.eq_false_iff.mpr c21
         subst c21
         have H1 : (if 0 ≤ x6_1 then (if rdOf false l0_2 x6_1 = true then (if x447002_1.length < 140737488355328 then (barscanref37_Outline.l0 k1 (wrap64 (x6_1 + 1)) a0_0 a0_1 l0_2 a0_0 a0_1 (x447002_1 ++ [!false])) else (none)) else (if x447002_1.length < 140737488355328 then (barscanref37_Outline.l0 k1 (wrap64 (x6_1 + 1)) a0_0 a0_1 l0_2 a0_0 a0_1 (x447002_1 ++ [false])) else (none))) else (none)) = some (r1, r2, r3, r4) := by rw [if_neg (show ¬ (false = true) by decide)] at H; exact H
         clear H
         have H := H1
         clear H1
         by_cases c56 : 0 ≤ x6_1
         ·rw [if_pos c56] at H
          have c56b0 : decide (0 ≤ x6_1) = true := decide_eq_true c56
          clear c56
          obtain ⟨bq57, hbq57⟩ : ∃ b_ : Bool, b_ = (rdOf false l0_2 x6_1) := ⟨_, rfl⟩
          replace H : (if bq57 = true then (if x447002_1.length < 140737488355328 then (barscanref37_Outline.l0 k1 (wrap64 (x6_1 + 1)) a0_0 a0_1 l0_2 a0_0 a0_1 (x447002_1 ++ [!false])) else (none)) else (if x447002_1.length < 140737488355328 then (barscanref37_Outline.l0 k1 (wrap64 (x6_1 + 1)) a0_0 a0_1 l0_2 a0_0 a0_1 (x447002_1 ++ [false])) else (none))) = some (r1, r2, r3, r4) := by rw [← hbq57] at H; exact H
          have Nbq57 := Aside0.mk hbq57
          clear hbq57
          by_cases c58 : bq57 = true
          ·subst c58
           have H1 : (if x447002_1.length < 140737488355328 then (barscanref37_Outline.l0 k1 (wrap64 (x6_1 + 1)) a0_0 a0_1 l0_2 a0_0 a0_1 (x447002_1 ++ [!false])) else (none)) = some (r1, r2, r3, r4) := by rw [if_pos rfl] at H; exact H
           clear H
           have H := H1
           clear H1
           by_cases c59 : x447002_1.length < 140737488355328
           ·rw [if_pos c59] at H
            have LMc59 := Aside0.mk c59
            clear c59
            obtain ⟨y459, hy459⟩ : ∃ y_ : List Bool, y_ = (x447002_1 ++ [!false]) := ⟨_, rfl⟩
            replace H : (barscanref37_Outline.l0 k1 (wrap64 (x6_1 + 1)) a0_0 a0_1 l0_2 a0_0 a0_1 y459) = some (r1, r2, r3, r4) := by first | (rw [hy459]; with_reducible exact H) | (have H2_ := (Option.bind_some _ _).symm.trans H; rw [hy459]; with_reducible exact H2_) | (have H2_ := (Option.bind_some _ _).symm.trans H; with_reducible exact H2_) | with_reducible exact H | (rw [hy459]; exact H) | exact H
            have Ny459 := Aside0.mk hy459
            clear hy459
            have H' := Aside0.mk H
            clear H
            have hnb60 := NB443_444.out
            have hnc60 := NB444_443.out
            have hnb61 := NB443_446.out
            have hnc61 := NB446_443.out
            have hcz62_0 : wr.cell? ⟨gb443, 0, none⟩ = some (.int .i64 a0_0) := (blk_cell BK443.out 0).trans rfl
            have hcz62_1 : wr.cell? ⟨gb443, 1, none⟩ = some (.int .i64 a0_1) := (blk_cell BK443.out 1).trans rfl
            have hcz62_2 : wr.cell? ⟨gb443, 2, none⟩ = some (.slice A0_2 l0_2.length c0_2) := (blk_cell BK443.out 2).trans rfl
            have hfz62_0 := blk_frozen BK443.out 0
            have hfz62_1 := blk_frozen BK443.out 1
            have hfz62_2 := blk_frozen BK443.out 2
            try go_wp2_with (first | ((with_reducible refine gate_callee (f := 43) rfl ?_); refine goesL_ (some 40) rfl rfl Try.func43 (by kernel_rfl) rfl #[.agg #[.int .i64 a0_0, .int .i64 a0_1, .slice A0_2 l0_2.length c0_2], .int .i64 (wrap64 ((Int.tmod x6_1 a0_0) - 1)), .int .i64 (wrap64 (Int.tdiv x6_1 a0_0))] rfl mapx ?_; (with_reducible refine (barscanref31_At.calls a0_0 a0_1 _ _ l0_2 (wrap64 ((Int.tmod x6_1 a0_0) - 1)) (wrap64 (Int.tdiv x6_1 a0_0)) true _ ?side1 ?side2 A16.out).mono ?_); (case side1 => repeat (first | exact (Kd.C_below HR0_2.out HB.out) | (with_reducible refine Kd.C_alloc ?_ _) | (with_reducible refine Kd.C_drewN ?_ _) | (with_reducible refine Kd.C_drew ?_))); (case side2 => exact HC0_2.out); rintro e w63 ⟨rfl, hb⟩; refine ⟨_, rfl, ?_⟩; have n0_ := Aside0.mk (Kd.R_below (rkx HO_447002) hb); have n1_ := Aside0.mk (blk_below (bkx BK443) hb); have n2_ := Aside0.mk (blk_below (bkx BK444) hb); have n3_ := Aside0.mk (blk_below (bkx BK446) hb); have n4_ := Aside0.mk (below_step (hb3 HB GE443 GE444 GE446) hb); clear HO_447002; clear BK443; clear BK444; clear BK446; clear HB; have HO_447002 := n0_; have BK443 := n1_; have BK444 := n2_; have BK446 := n3_; have HB := n4_; clear n0_ n1_ n2_ n3_ n4_; (try clear hb); (try clear hb2); (try clear hk); (try clear hi); have hcz64_0 : w63.cell? ⟨gb443, 0, none⟩ = some (.int .i64 a0_0) := (blk_cell BK443.out 0).trans rfl; have hcz64_1 : w63.cell? ⟨gb443, 1, none⟩ = some (.int .i64 a0_1) := (blk_cell BK443.out 1).trans rfl; have hcz64_2 : w63.cell? ⟨gb443, 2, none⟩ = some (.slice A0_2 l0_2.length c0_2) := (blk_cell BK443.out 2).trans rfl; have hfz64_0 := blk_frozen BK443.out 0; have hfz64_1 := blk_frozen BK443.out 1; have hfz64_2 := blk_frozen BK443.out 2) | (go_at_call 43; (with_reducible refine (barscanref31_At.calls a0_0 a0_1 _ _ l0_2 (wrap64 ((Int.tmod x6_1 a0_0) + 1)) (wrap64 (Int.tdiv x6_1 a0_0)) true _ ?side1 ?side2 A18.out).mono ?_); (case side1 => repeat (first | exact (Kd.C_below HR0_2.out HB.out) | (with_reducible refine Kd.C_alloc ?_ _) | (with_reducible refine Kd.C_drewN ?_ _) | (with_reducible refine Kd.C_drew ?_))); (case side2 => exact HC0_2.out); rintro e w65 ⟨rfl, hb⟩; have n0_ := Aside0.mk (Kd.R_below (rkx HO_447002) hb); have n1_ := Aside0.mk (blk_below (bkx BK443) hb); have n2_ := Aside0.mk (blk_below (bkx BK444) hb); have n3_ := Aside0.mk (blk_below (bkx BK446) hb); have n4_ := Aside0.mk (below_step (hb3 HB GE443 GE444 GE446) hb); clear HO_447002; clear BK443; clear BK444; clear BK446; clear HB; have HO_447002 := n0_; have BK443 := n1_; have BK444 := n2_; have BK446 := n3_; have HB := n4_; clear n0_ n1_ n2_ n3_ n4_; (try clear hb); (try clear hb2); (try clear hk); (try clear hi); have hcz66_0 : w65.cell? ⟨gb443, 0, none⟩ = some (.int .i64 a0_0) := (blk_cell BK443.out 0).trans rfl; have hcz66_1 : w65.cell? ⟨gb443, 1, none⟩ = some (.int .i64 a0_1) := (blk_cell BK443.out 1).trans rfl; have hcz66_2 : w65.cell? ⟨gb443, 2, none⟩ = some (.slice A0_2 l0_2.length c0_2) := (blk_cell BK443.out 2).trans rfl; have hfz66_0 := blk_frozen BK443.out 0; have hfz66_1 := blk_frozen BK443.out 1; have hfz66_2 := blk_frozen BK443.out 2) | (go_at_call 43; (with_reducible refine (barscanref31_At.calls a0_0 a0_1 _ _ l0_2 (Int.tmod x6_1 a0_0) (wrap64 ((wrap64 (Int.tdiv x6_1 a0_0)) - 1)) false _ ?side1 ?side2 A20.out).mono ?_); (case side1 => repeat (first | exact (Kd.C_below HR0_2.out HB.out) | (with_reducible refine Kd.C_alloc ?_ _) | (with_reducible refine Kd.C_drewN ?_ _) | (with_reducible refine Kd.C_drew ?_))); (case side2 => exact HC0_2.out); rintro e w67 ⟨rfl, hb⟩; have n0_ := Aside0.mk (Kd.R_below (rkx HO_447002) hb); have n1_ := Aside0.mk (blk_below (bkx BK443) hb); have n2_ := Aside0.mk (blk_below (bkx BK444) hb); have n3_ := Aside0.mk (blk_below (bkx BK446) hb); have n4_ := Aside0.mk (below_step (hb3 HB GE443 GE444 GE446) hb); clear HO_447002; clear BK443; clear BK444; clear BK446; clear HB; have HO_447002 := n0_; have BK443 := n1_; have BK444 := n2_; have BK446 := n3_; have HB := n4_; clear n0_ n1_ n2_ n3_ n4_; (try clear hb); (try clear hb2); (try clear hk); (try clear hi)))
            have n0_ := Aside0.mk (Kd.R_drew HO_447002.out)
            have n1_ := Aside0.mk (blk_drew BK443.out)
            have n2_ := Aside0.mk (blk_drew BK444.out)
            have n3_ := Aside0.mk (blk_drew BK446.out)
            have n4_ := Aside0.mk (below_drew1 HB.out)
            clear HO_447002
            clear BK443
            clear BK444
            clear BK446
            clear HB
            have HO_447002 := n0_
            have BK443 := n1_
            have BK444 := n2_
            have BK446 := n3_
            have HB := n4_
            clear n0_ n1_ n2_ n3_ n4_
            have p458 : 0 ≤ (x6_1 : Int) := of_decide_eq_true (by first | (with_reducible assumption) | assumption)
            have q458 : x6_1 < (l0_2.length : Int) := of_decide_eq_true (by first | (with_reducible assumption) | assumption)
            obtain ⟨ad458, e458, hx458_0⟩ := Kd.at_bool HR0_2.out x6_1 p458 q458
            have hw458_0 := hx458_0
            (try rw [← Nbq57.out] at hw458_0)
            (try rw [← Nbq57.out] at hx458_0)
            cases e458
            replace hx458_0 := (HB.out.cell (World.block_lt_of_cell? w _ hx458_0)).trans hx458_0
            replace p458 := eq_true p458
            replace q458 := eq_true q458
            refine start_ (n := 15) (S := fun w' => w'.cell? ⟨gb446, 0, none⟩ = some (.int .i64 a0_0) ∧ w'.cell? ⟨gb446, 1, none⟩ = some (.int .i64 a0_1) ∧ w'.cell? ⟨gb446, 2, none⟩ = some (u447002) ∧ w'.cell? ⟨gb443, 0, none⟩ = some (.int .i64 a0_0) ∧ w'.cell? ⟨gb443, 1, none⟩ = some (.int .i64 a0_1) ∧ w'.cell? ⟨gb443, 2, none⟩ = some (.slice (some ad458) l0_2.length c0_2) ∧ w'.cell? (ad458.add (x6_1).toNat) = some (.bool true)) (ds := [14]) (bA 15 0) (by kernel_rfl) rfl rfl ⟨(blk_cell BK446.out 0).trans rfl, (blk_cell BK446.out 1).trans rfl, (blk_cell BK446.out 2).trans rfl, (blk_cell BK443.out 0).trans rfl, (blk_cell BK443.out 1).trans rfl, (blk_cell BK443.out 2).trans rfl, ((HB.out.cell (World.block_lt_of_cell? w _ hw458_0)).trans hw458_0)⟩ (fun hHeld => ?_); refine with_tabW barscanref37_Outline.tab11 barscanref37_Outline.bits11 (fun HT_ HW_ => ?_)
            generalize w67.drew = w68 at HO_447002 BK443 BK444 BK446 HB hx458_0 hHeld ⊢
            refine pt HT_ 0 62 ?_
            refine pt HT_ 2 64 ?_
            refine pt HT_ 4 66 ?_
            refine tk HT_ HW_ hHeld 1 63 ?_
            refine tk HT_ HW_ hHeld 3 65 ?_
            refine pt HT_ 5 67 ?_
            refine tk HT_ HW_ hHeld 6 68 ?_
            refine pt HT_ 7 69 ?_
            refine pt HT_ 8 70 ?_
            refine pt HT_ 9 71 ?_
            refine pt HT_ 10 72 ?_
            refine one_ (i := 11) (N := some 73) (bA 15 4095) rfl rfl (one_of HT_.out (by kernel_rfl)) (by decide) (fun K hK => ?_)
            refine value_ (w1 := ?_) (v := ?_) (by rfl) rfl ?_ ?_
            rotate_left 2
            ·go_simp
             constructor
             ·rfl
             ·rfl
            refine hK.out _ _ ⟨(blk_cell (blk_alloc BK446.out _) 0).trans rfl, (blk_cell (blk_alloc BK446.out _) 1).trans rfl, (blk_cell (blk_alloc BK446.out _) 2).trans rfl, (blk_cell (blk_alloc BK443.out _) 0).trans rfl, (blk_cell (blk_alloc BK443.out _) 1).trans rfl, (blk_cell (blk_alloc BK443.out _) 2).trans rfl, (World.cell?_alloc_lt _ _ _ (World.block_lt_of_cell? _ _ (((HB.out.cell (World.block_lt_of_cell? w _ hw458_0)).trans hw458_0)))).trans (((HB.out.cell (World.block_lt_of_cell? w _ hw458_0)).trans hw458_0))⟩ (fun hHeld => ?_)
            clear hK K
            refine norm_ (a' := ?_) ?_ ?_
            rotate_left
            ·show Act.put _ (some 73) _ = _
             simp only [Act.put, List.setIfInBounds_toArray, List.set_cons_zero, List.set_cons_succ, i64_w, i32_w]
             rfl
            refine one_ (i := 12) (N := some 74) (bA 15 8191) rfl rfl (one_of HT_.out (by kernel_rfl)) (by decide) (fun K hK => ?_)
            refine Kd.R_append_step Kd.bool (w0 := w) w.heap.size (by rfl) (.tmp 63) (.tmp 73) 22 4 (.bool false) 1 rfl Try.underlying22 info4 rfl (by decide) (by omega) u447002 x447002_1 (!false) [.bool (!false)] (fun _ => True) (fun _ => False) rfl rfl ?aP (fun _ hk => hk.elim) ?aF ?aO ?aB ?aS ?aL ?_
            (case aP => exact rfl)
            (case aB => exact (hb3 HB GE443 GE444 GE446))
            (case aF => exact (fun _ _ => trivial))
            (case aO => exact (rkx HO_447002))
            (case aS => exact (below_size (hb3 HB GE443 GE444 GE446)))
            (case aL => have := LMc59.out; omega)
            intro v460 w69 ho hb hg hat
            rw [← Ny459.out] at ho
            have n0_ := Aside0.mk (blk_grown (g := gb443) (o := .cells #[.int .i64 a0_0, .int .i64 a0_1, .slice (some ad458) l0_2.length c0_2] 24 (0, 0)) (bkx BK443) hg (Kd.R_ne HO_447002.out BK443.out (by decide)))
            have n1_ := Aside0.mk (blk_grown (g := gb444) (o := .cells #[.int .i64 0, .int .i64 0, .slice none 0 0] 24 (0, 0)) (bkx BK444) hg (Kd.R_ne HO_447002.out BK444.out (by decide)))
            have n2_ := Aside0.mk (blk_grown (g := gb446) (o := .cells #[.int .i64 a0_0, .int .i64 a0_1, u447002] 24 (0, 0)) (bkx BK446) hg (Kd.R_ne HO_447002.out BK446.out (by decide)))
            have n3_ := Aside0.mk (hb)
            have n4_ := Aside0.mk (ho)
            clear BK443
            clear BK444
            clear BK446
            clear HB
            clear HO_447002
            have BK443 := n0_
            have BK444 := n1_
            have BK446 := n2_
            have HB := n3_
            have HO461 := n4_
            clear n0_ n1_ n2_ n3_ n4_
            clear ho hb hg hat
            obtain ⟨Ao70, co70, eo70⟩ := Kd.R_slice HO461.out
            (first | subst eo70 | (injection eo70 with f1_ f2_ f3_; have f4_ := f1_.symm; have f5_ := f3_.symm; clear f1_ f2_ f3_; subst f4_; subst f5_))
            refine hK.out _ _ ⟨(blk_cell BK446.out 0).trans rfl, (blk_cell BK446.out 1).trans rfl, (blk_cell BK446.out 2).trans rfl, (blk_cell BK443.out 0).trans rfl, (blk_cell BK443.out 1).trans rfl, (blk_cell BK443.out 2).trans rfl, ((HB.out.cell (World.block_lt_of_cell? w _ hw458_0)).trans hw458_0)⟩ (fun hHeld => ?_)
            clear hK K
            refine norm_ (a' := ?_) ?_ ?_
            rotate_left
            ·show Act.put _ (some 74) _ = _
             simp only [Act.put, List.setIfInBounds_toArray, List.set_cons_zero, List.set_cons_succ, i64_w, i32_w]
             rfl
            refine pt HT_ 13 75 ?_
            refine last_ (i := 14) (N := none) (bA 15 32767) rfl rfl (one_of HT_.out (by kernel_rfl)) (by decide) (fun K hK => ?_)
            have hs71 : w69.cell? ⟨gb446, 2, none⟩ = some (u447002) := (blk_cell BK446.out 2).trans rfl
            have hfs71 := blk_frozen BK446.out 2
            have hns71_0 := NB443_446.out
            have hns71_1 := NB444_446.out
            have hms71_0 := NB446_443.out
            have hms71_1 := NB446_444.out
            refine skip_ (w1 := ?_) (by rfl) rfl ?_ ?_
            rotate_left
            ·go_simp
             rfl
            refine hK.out _ _ ?_
            clear hK K
            refine done_ (done_of HT_.out (by kernel_rfl)) ?_
            try go_wp2
            go_roundg k1
            case measure => have := HK1.out; omega
            case rel => exact ⟨(wrap64 (x6_1 + 1)), (y459), (.slice Ao70 y459.length co70), (by first | rfl | (simp; done) | (simp [*]; done)), H', ⟨by have := HK1.out; omega⟩, ⟨by refine rkt ?_; exact Kd.R_mono (Kd.R_far (p := ⟨gb446, 2, none⟩) (Kd.R_types HO461.out BK446.out (by decide)) (fun _ hk => hk.2) (.slice Ao70 y459.length co70)) (fun _ hk => trivial)⟩, ⟨bky BK443 NB443_446⟩, ⟨bky BK444 NB444_446⟩, ⟨by refine bkt ?_; refine blk_put (cs := #[.int .i64 a0_0, .int .i64 a0_1, u447002]) ?_ 2 _ rfl; refine bkt ?_; exact BK446.out⟩, ⟨hb3 HB GE443 GE444 GE446⟩⟩
           ·rw [if_neg c59] at H
            exact absurd H (by simp)
          ·replace c58 := Bool.eq_false_iff.mpr c58
           subst c58
           have H1 : (if x447002_1.length < 140737488355328 then (barscanref37_Outline.l0 k1 (wrap64 (x6_1 + 1)) a0_0 a0_1 l0_2 a0_0 a0_1 (x447002_1 ++ [false])) else (none)) = some (r1, r2, r3, r4) := by rw [if_neg (show ¬ (false = true) by decide)] at H; exact H
           clear H
           have H := H1
           clear H1
           by_cases c72 : x447002_1.length < 140737488355328
           ·rw [if_pos c72] at H
            have LMc72 := Aside0.mk c72
            clear c72
            obtain ⟨y462, hy462⟩ : ∃ y_ : List Bool, y_ = (x447002_1 ++ [false]) := ⟨_, rfl⟩
            replace H : (barscanref37_Outline.l0 k1 (wrap64 (x6_1 + 1)) a0_0 a0_1 l0_2 a0_0 a0_1 y462) = some (r1, r2, r3, r4) := by first | (rw [hy462]; with_reducible exact H) | (have H2_ := (Option.bind_some _ _).symm.trans H; rw [hy462]; with_reducible exact H2_) | (have H2_ := (Option.bind_some _ _).symm.trans H; with_reducible exact H2_) | with_reducible exact H | (rw [hy462]; exact H) | exact H
            have Ny462 := Aside0.mk hy462
            clear hy462
            have H' := Aside0.mk H
            clear H
            have hnb73 := NB443_444.out
            have hnc73 := NB444_443.out
            have hnb74 := NB443_446.out
            have hnc74 := NB446_443.out
            have hcz75_0 : wr.cell? ⟨gb443, 0, none⟩ = some (.int .i64 a0_0) := (blk_cell BK443.out 0).trans rfl
            have hcz75_1 : wr.cell? ⟨gb443, 1, none⟩ = some (.int .i64 a0_1) := (blk_cell BK443.out 1).trans rfl
            have hcz75_2 : wr.cell? ⟨gb443, 2, none⟩ = some (.slice A0_2 l0_2.length c0_2) := (blk_cell BK443.out 2).trans rfl
            have hfz75_0 := blk_frozen BK443.out 0
            have hfz75_1 := blk_frozen BK443.out 1
            have hfz75_2 := blk_frozen BK443.out 2
            try go_wp2_with (first | ((with_reducible refine gate_callee (f := 43) rfl ?_); refine goesL_ (some 40) rfl rfl Try.func43 (by kernel_rfl) rfl #[.agg #[.int .i64 a0_0, .int .i64 a0_1, .slice A0_2 l0_2.length c0_2], .int .i64 (wrap64 ((Int.tmod x6_1 a0_0) - 1)), .int .i64 (wrap64 (Int.tdiv x6_1 a0_0))] rfl mapx ?_; (with_reducible refine (barscanref31_At.calls a0_0 a0_1 _ _ l0_2 (wrap64 ((Int.tmod x6_1 a0_0) - 1)) (wrap64 (Int.tdiv x6_1 a0_0)) true _ ?side1 ?side2 A16.out).mono ?_); (case side1 => repeat (first | exact (Kd.C_below HR0_2.out HB.out) | (with_reducible refine Kd.C_alloc ?_ _) | (with_reducible refine Kd.C_drewN ?_ _) | (with_reducible refine Kd.C_drew ?_))); (case side2 => exact HC0_2.out); rintro e w76 ⟨rfl, hb⟩; refine ⟨_, rfl, ?_⟩; have n0_ := Aside0.mk (Kd.R_below (rkx HO_447002) hb); have n1_ := Aside0.mk (blk_below (bkx BK443) hb); have n2_ := Aside0.mk (blk_below (bkx BK444) hb); have n3_ := Aside0.mk (blk_below (bkx BK446) hb); have n4_ := Aside0.mk (below_step (hb3 HB GE443 GE444 GE446) hb); clear HO_447002; clear BK443; clear BK444; clear BK446; clear HB; have HO_447002 := n0_; have BK443 := n1_; have BK444 := n2_; have BK446 := n3_; have HB := n4_; clear n0_ n1_ n2_ n3_ n4_; (try clear hb); (try clear hb2); (try clear hk); (try clear hi); have hcz77_0 : w76.cell? ⟨gb443, 0, none⟩ = some (.int .i64 a0_0) := (blk_cell BK443.out 0).trans rfl; have hcz77_1 : w76.cell? ⟨gb443, 1, none⟩ = some (.int .i64 a0_1) := (blk_cell BK443.out 1).trans rfl; have hcz77_2 : w76.cell? ⟨gb443, 2, none⟩ = some (.slice A0_2 l0_2.length c0_2) := (blk_cell BK443.out 2).trans rfl; have hfz77_0 := blk_frozen BK443.out 0; have hfz77_1 := blk_frozen BK443.out 1; have hfz77_2 := blk_frozen BK443.out 2) | (go_at_call 43; (with_reducible refine (barscanref31_At.calls a0_0 a0_1 _ _ l0_2 (wrap64 ((Int.tmod x6_1 a0_0) + 1)) (wrap64 (Int.tdiv x6_1 a0_0)) true _ ?side1 ?side2 A18.out).mono ?_); (case side1 => repeat (first | exact (Kd.C_below HR0_2.out HB.out) | (with_reducible refine Kd.C_alloc ?_ _) | (with_reducible refine Kd.C_drewN ?_ _) | (with_reducible refine Kd.C_drew ?_))); (case side2 => exact HC0_2.out); rintro e w78 ⟨rfl, hb⟩; have n0_ := Aside0.mk (Kd.R_below (rkx HO_447002) hb); have n1_ := Aside0.mk (blk_below (bkx BK443) hb); have n2_ := Aside0.mk (blk_below (bkx BK444) hb); have n3_ := Aside0.mk (blk_below (bkx BK446) hb); have n4_ := Aside0.mk (below_step (hb3 HB GE443 GE444 GE446) hb); clear HO_447002; clear BK443; clear BK444; clear BK446; clear HB; have HO_447002 := n0_; have BK443 := n1_; have BK444 := n2_; have BK446 := n3_; have HB := n4_; clear n0_ n1_ n2_ n3_ n4_; (try clear hb); (try clear hb2); (try clear hk); (try clear hi); have hcz79_0 : w78.cell? ⟨gb443, 0, none⟩ = some (.int .i64 a0_0) := (blk_cell BK443.out 0).trans rfl; have hcz79_1 : w78.cell? ⟨gb443, 1, none⟩ = some (.int .i64 a0_1) := (blk_cell BK443.out 1).trans rfl; have hcz79_2 : w78.cell? ⟨gb443, 2, none⟩ = some (.slice A0_2 l0_2.length c0_2) := (blk_cell BK443.out 2).trans rfl; have hfz79_0 := blk_frozen BK443.out 0; have hfz79_1 := blk_frozen BK443.out 1; have hfz79_2 := blk_frozen BK443.out 2) | (go_at_call 43; (with_reducible refine (barscanref31_At.calls a0_0 a0_1 _ _ l0_2 (Int.tmod x6_1 a0_0) (wrap64 ((wrap64 (Int.tdiv x6_1 a0_0)) - 1)) false _ ?side1 ?side2 A20.out).mono ?_); (case side1 => repeat (first | exact (Kd.C_below HR0_2.out HB.out) | (with_reducible refine Kd.C_alloc ?_ _) | (with_reducible refine Kd.C_drewN ?_ _) | (with_reducible refine Kd.C_drew ?_))); (case side2 => exact HC0_2.out); rintro e w80 ⟨rfl, hb⟩; have n0_ := Aside0.mk (Kd.R_below (rkx HO_447002) hb); have n1_ := Aside0.mk (blk_below (bkx BK443) hb); have n2_ := Aside0.mk (blk_below (bkx BK444) hb); have n3_ := Aside0.mk (blk_below (bkx BK446) hb); have n4_ := Aside0.mk (below_step (hb3 HB GE443 GE444 GE446) hb); clear HO_447002; clear BK443; clear BK444; clear BK446; clear HB; have HO_447002 := n0_; have BK443 := n1_; have BK444 := n2_; have BK446 := n3_; have HB := n4_; clear n0_ n1_ n2_ n3_ n4_; (try clear hb); (try clear hb2); (try clear hk); (try clear hi)))
            have n0_ := Aside0.mk (Kd.R_drew HO_447002.out)
            have n1_ := Aside0.mk (blk_drew BK443.out)
            have n2_ := Aside0.mk (blk_drew BK444.out)
            have n3_ := Aside0.mk (blk_drew BK446.out)
            have n4_ := Aside0.mk (below_drew1 HB.out)
            clear HO_447002
            clear BK443
            clear BK444
            clear BK446
            clear HB
            have HO_447002 := n0_
            have BK443 := n1_
            have BK444 := n2_
            have BK446 := n3_
            have HB := n4_
            clear n0_ n1_ n2_ n3_ n4_
            have p458 : 0 ≤ (x6_1 : Int) := of_decide_eq_true (by first | (with_reducible assumption) | assumption)
            have q458 : x6_1 < (l0_2.length : Int) := of_decide_eq_true (by first | (with_reducible assumption) | assumption)
            obtain ⟨ad458, e458, hx458_0⟩ := Kd.at_bool HR0_2.out x6_1 p458 q458
            have hw458_0 := hx458_0
            (try rw [← Nbq57.out] at hw458_0)
            (try rw [← Nbq57.out] at hx458_0)
            cases e458
            replace hx458_0 := (HB.out.cell (World.block_lt_of_cell? w _ hx458_0)).trans hx458_0
            replace p458 := eq_true p458
            replace q458 := eq_true q458
            refine start_ (n := 15) (S := fun w' => w'.cell? ⟨gb446, 0, none⟩ = some (.int .i64 a0_0) ∧ w'.cell? ⟨gb446, 1, none⟩ = some (.int .i64 a0_1) ∧ w'.cell? ⟨gb446, 2, none⟩ = some (u447002) ∧ w'.cell? ⟨gb443, 0, none⟩ = some (.int .i64 a0_0) ∧ w'.cell? ⟨gb443, 1, none⟩ = some (.int .i64 a0_1) ∧ w'.cell? ⟨gb443, 2, none⟩ = some (.slice (some ad458) l0_2.length c0_2) ∧ w'.cell? (ad458.add (x6_1).toNat) = some (.bool false)) (ds := [14]) (bA 15 0) (by kernel_rfl) rfl rfl ⟨(blk_cell BK446.out 0).trans rfl, (blk_cell BK446.out 1).trans rfl, (blk_cell BK446.out 2).trans rfl, (blk_cell BK443.out 0).trans rfl, (blk_cell BK443.out 1).trans rfl, (blk_cell BK443.out 2).trans rfl, ((HB.out.cell (World.block_lt_of_cell? w _ hw458_0)).trans hw458_0)⟩ (fun hHeld => ?_); refine with_tabW barscanref37_Outline.tab11 barscanref37_Outline.bits11 (fun HT_ HW_ => ?_)
            generalize w80.drew = w81 at HO_447002 BK443 BK444 BK446 HB hx458_0 hHeld ⊢
            refine pt HT_ 0 62 ?_
            refine pt HT_ 2 64 ?_
            refine pt HT_ 4 66 ?_
            refine tk HT_ HW_ hHeld 1 63 ?_
            refine tk HT_ HW_ hHeld 3 65 ?_
            refine pt HT_ 5 67 ?_
            refine tk HT_ HW_ hHeld 6 68 ?_
            refine pt HT_ 7 69 ?_
            refine pure_ (i := 8) (N := some 70) (v := undef) (a' := ?_) (bA 15 511) rfl rfl (any_of HT_.out (by kernel_rfl)) (fun _ _ _ h => h) (Or.inr ⟨by rfl, rfl⟩) ?_ ?_
            rotate_left
            ·simp only [Act.put, List.setIfInBounds_toArray, List.set_cons_zero, List.set_cons_succ, i64_w, i32_w]
             rfl
            refine pure_ (i := 9) (N := some 71) (v := undef) (a' := ?_) (bA 15 1023) rfl rfl (any_of HT_.out (by kernel_rfl)) (fun _ _ _ h => h) (Or.inr ⟨by rfl, rfl⟩) ?_ ?_
            rotate_left
            ·simp only [Act.put, List.setIfInBounds_toArray, List.set_cons_zero, List.set_cons_succ, i64_w, i32_w]
             rfl
            refine pt HT_ 10 72 ?_
            refine one_ (i := 11) (N := some 73) (bA 15 4095) rfl rfl (one_of HT_.out (by kernel_rfl)) (by decide) (fun K hK => ?_)
            refine value_ (w1 := ?_) (v := ?_) (by rfl) rfl ?_ ?_
            rotate_left 2
            ·go_simp
             constructor
             ·rfl
             ·rfl
            refine hK.out _ _ ⟨(blk_cell (blk_alloc BK446.out _) 0).trans rfl, (blk_cell (blk_alloc BK446.out _) 1).trans rfl, (blk_cell (blk_alloc BK446.out _) 2).trans rfl, (blk_cell (blk_alloc BK443.out _) 0).trans rfl, (blk_cell (blk_alloc BK443.out _) 1).trans rfl, (blk_cell (blk_alloc BK443.out _) 2).trans rfl, (World.cell?_alloc_lt _ _ _ (World.block_lt_of_cell? _ _ (((HB.out.cell (World.block_lt_of_cell? w _ hw458_0)).trans hw458_0)))).trans (((HB.out.cell (World.block_lt_of_cell? w _ hw458_0)).trans hw458_0))⟩ (fun hHeld => ?_)
            clear hK K
            refine norm_ (a' := ?_) ?_ ?_
            rotate_left
            ·show Act.put _ (some 73) _ = _
             simp only [Act.put, List.setIfInBounds_toArray, List.set_cons_zero, List.set_cons_succ, i64_w, i32_w]
             rfl
            refine one_ (i := 12) (N := some 74) (bA 15 8191) rfl rfl (one_of HT_.out (by kernel_rfl)) (by decide) (fun K hK => ?_)
            refine Kd.R_append_step Kd.bool (w0 := w) w.heap.size (by rfl) (.tmp 63) (.tmp 73) 22 4 (.bool false) 1 rfl Try.underlying22 info4 rfl (by decide) (by omega) u447002 x447002_1 false [.bool false] (fun _ => True) (fun _ => False) rfl rfl ?aP (fun _ hk => hk.elim) ?aF ?aO ?aB ?aS ?aL ?_
            (case aP => exact rfl)
            (case aB => exact (hb3 HB GE443 GE444 GE446))
            (case aF => exact (fun _ _ => trivial))
            (case aO => exact (rkx HO_447002))
            (case aS => exact (below_size (hb3 HB GE443 GE444 GE446)))
            (case aL => have := LMc72.out; omega)
            intro v463 w82 ho hb hg hat
            rw [← Ny462.out] at ho
            have n0_ := Aside0.mk (blk_grown (g := gb443) (o := .cells #[.int .i64 a0_0, .int .i64 a0_1, .slice (some ad458) l0_2.length c0_2] 24 (0, 0)) (bkx BK443) hg (Kd.R_ne HO_447002.out BK443.out (by decide)))
            have n1_ := Aside0.mk (blk_grown (g := gb444) (o := .cells #[.int .i64 0, .int .i64 0, .slice none 0 0] 24 (0, 0)) (bkx BK444) hg (Kd.R_ne HO_447002.out BK444.out (by decide)))
            have n2_ := Aside0.mk (blk_grown (g := gb446) (o := .cells #[.int .i64 a0_0, .int .i64 a0_1, u447002] 24 (0, 0)) (bkx BK446) hg (Kd.R_ne HO_447002.out BK446.out (by decide)))
            have n3_ := Aside0.mk (hb)
            have n4_ := Aside0.mk (ho)
            clear BK443
            clear BK444
            clear BK446
            clear HB
            clear HO_447002
            have BK443 := n0_
            have BK444 := n1_
            have BK446 := n2_
            have HB := n3_
            have HO464 := n4_
            clear n0_ n1_ n2_ n3_ n4_
            clear ho hb hg hat
            obtain ⟨Ao83, co83, eo83⟩ := Kd.R_slice HO464.out
            (first | subst eo83 | (injection eo83 with f1_ f2_ f3_; have f4_ := f1_.symm; have f5_ := f3_.symm; clear f1_ f2_ f3_; subst f4_; subst f5_))
            refine hK.out _ _ ⟨(blk_cell BK446.out 0).trans rfl, (blk_cell BK446.out 1).trans rfl, (blk_cell BK446.out 2).trans rfl, (blk_cell BK443.out 0).trans rfl, (blk_cell BK443.out 1).trans rfl, (blk_cell BK443.out 2).trans rfl, ((HB.out.cell (World.block_lt_of_cell? w _ hw458_0)).trans hw458_0)⟩ (fun hHeld => ?_)
            clear hK K
            refine norm_ (a' := ?_) ?_ ?_
            rotate_left
            ·show Act.put _ (some 74) _ = _
             simp only [Act.put, List.setIfInBounds_toArray, List.set_cons_zero, List.set_cons_succ, i64_w, i32_w]
             rfl
            refine pt HT_ 13 75 ?_
            refine last_ (i := 14) (N := none) (bA 15 32767) rfl rfl (one_of HT_.out (by kernel_rfl)) (by decide) (fun K hK => ?_)
            have hs84 : w82.cell? ⟨gb446, 2, none⟩ = some (u447002) := (blk_cell BK446.out 2).trans rfl
            have hfs84 := blk_frozen BK446.out 2
            have hns84_0 := NB443_446.out
            have hns84_1 := NB444_446.out
            have hms84_0 := NB446_443.out
            have hms84_1 := NB446_444.out
            refine skip_ (w1 := ?_) (by rfl) rfl ?_ ?_
            rotate_left
            ·go_simp
             rfl
            refine hK.out _ _ ?_
            clear hK K
            refine done_ (done_of HT_.out (by kernel_rfl)) ?_
            try go_wp2
            go_roundg k1
            case measure => have := HK1.out; omega
            case rel => exact ⟨(wrap64 (x6_1 + 1)), (y462), (.slice Ao83 y462.length co83), (by first | rfl | (simp; done) | (simp [*]; done)), H', ⟨by have := HK1.out; omega⟩, ⟨by refine rkt ?_; exact Kd.R_mono (Kd.R_far (p := ⟨gb446, 2, none⟩) (Kd.R_types HO464.out BK446.out (by decide)) (fun _ hk => hk.2) (.slice Ao83 y462.length co83)) (fun _ hk => trivial)⟩, ⟨bky BK443 NB443_446⟩, ⟨bky BK444 NB444_446⟩, ⟨by refine bkt ?_; refine blk_put (cs := #[.int .i64 a0_0, .int .i64 a0_1, u447002]) ?_ 2 _ rfl; refine bkt ?_; exact BK446.out⟩, ⟨hb3 HB GE443 GE444 GE446⟩⟩
           ·rw [if_neg c72] at H
            exact absurd H (by simp)
         ·rw [if_neg c56] at H
          exact absurd H (by simp)
       ·replace c19 := Bool.eq_false_iff.mpr c19
        subst c19
        have H1 : (if 0 ≤ x6_1 then (if rdOf false l0_2 x6_1 = true then (if x447002_1.length < 140737488355328 then (barscanref37_Outline.l0 k1 (wrap64 (x6_1 + 1)) a0_0 a0_1 l0_2 a0_0 a0_1 (x447002_1 ++ [!false])) else (none)) else (if x447002_1.length < 140737488355328 then (barscanref37_Outline.l0 k1 (wrap64 (x6_1 + 1)) a0_0 a0_1 l0_2 a0_0 a0_1 (x447002_1 ++ [false])) else (none))) else (none)) = some (r1, r2, r3, r4) := by rw [if_neg (show ¬ (false = true) by decide)] at H; exact H
        clear H
        have H := H1
        clear H1
        by_cases c85 : 0 ≤ x6_1
        ·rw [if_pos c85] at H
         have c85b0 : decide (0 ≤ x6_1) = true := decide_eq_true c85
         clear c85
         obtain ⟨bq86, hbq86⟩ : ∃ b_ : Bool, b_ = (rdOf false l0_2 x6_1) := ⟨_, rfl⟩
         replace H : (if bq86 = true then (if x447002_1.length < 140737488355328 then (barscanref37_Outline.l0 k1 (wrap64 (x6_1 + 1)) a0_0 a0_1 l0_2 a0_0 a0_1 (x447002_1 ++ [!false])) else (none)) else (if x447002_1.length < 140737488355328 then (barscanref37_Outline.l0 k1 (wrap64 (x6_1 + 1)) a0_0 a0_1 l0_2 a0_0 a0_1 (x447002_1 ++ [false])) else (none))) = some (r1, r2, r3, r4) := by rw [← hbq86] at H; exact H
         have Nbq86 := Aside0.mk hbq86
         clear hbq86
         by_cases c87 : bq86 = true
         ·subst c87
          have H1 : (if x447002_1.length < 140737488355328 then (barscanref37_Outline.l0 k1 (wrap64 (x6_1 + 1)) a0_0 a0_1 l0_2 a0_0 a0_1 (x447002_1 ++ [!false])) else (none)) = some (r1, r2, r3, r4) := by rw [if_pos rfl] at H; exact H
          clear H
          have H := H1
          clear H1
          by_cases c88 : x447002_1.length < 140737488355328
          ·rw [if_pos c88] at H
           have LMc88 := Aside0.mk c88
           clear c88
           obtain ⟨y466, hy466⟩ : ∃ y_ : List Bool, y_ = (x447002_1 ++ [!false]) := ⟨_, rfl⟩
           replace H : (barscanref37_Outline.l0 k1 (wrap64 (x6_1 + 1)) a0_0 a0_1 l0_2 a0_0 a0_1 y466) = some (r1, r2, r3, r4) := by first | (rw [hy466]; with_reducible exact H) | (have H2_ := (Option.bind_some _ _).symm.trans H; rw [hy466]; with_reducible exact H2_) | (have H2_ := (Option.bind_some _ _).symm.trans H; with_reducible exact H2_) | with_reducible exact H | (rw [hy466]; exact H) | exact H
           have Ny466 := Aside0.mk hy466
           clear hy466
           have H' := Aside0.mk H
           clear H
           have hnb89 := NB443_444.out
           have hnc89 := NB444_443.out
           have hnb90 := NB443_446.out
           have hnc90 := NB446_443.out
           have hcz91_0 : wr.cell? ⟨gb443, 0, none⟩ = some (.int .i64 a0_0) := (blk_cell BK443.out 0).trans rfl
           have hcz91_1 : wr.cell? ⟨gb443, 1, none⟩ = some (.int .i64 a0_1) := (blk_cell BK443.out 1).trans rfl
           have hcz91_2 : wr.cell? ⟨gb443, 2, none⟩ = some (.slice A0_2 l0_2.length c0_2) := (blk_cell BK443.out 2).trans rfl
           have hfz91_0 := blk_frozen BK443.out 0
           have hfz91_1 := blk_frozen BK443.out 1
           have hfz91_2 := blk_frozen BK443.out 2
           try go_wp2_with (first | ((with_reducible refine gate_callee (f := 43) rfl ?_); refine goesL_ (some 40) rfl rfl Try.func43 (by kernel_rfl) rfl #[.agg #[.int .i64 a0_0, .int .i64 a0_1, .slice A0_2 l0_2.length c0_2], .int .i64 (wrap64 ((Int.tmod x6_1 a0_0) - 1)), .int .i64 (wrap64 (Int.tdiv x6_1 a0_0))] rfl mapx ?_; (with_reducible refine (barscanref31_At.calls a0_0 a0_1 _ _ l0_2 (wrap64 ((Int.tmod x6_1 a0_0) - 1)) (wrap64 (Int.tdiv x6_1 a0_0)) true _ ?side1 ?side2 A16.out).mono ?_); (case side1 => repeat (first | exact (Kd.C_below HR0_2.out HB.out) | (with_reducible refine Kd.C_alloc ?_ _) | (with_reducible refine Kd.C_drewN ?_ _) | (with_reducible refine Kd.C_drew ?_))); (case side2 => exact HC0_2.out); rintro e w92 ⟨rfl, hb⟩; refine ⟨_, rfl, ?_⟩; have n0_ := Aside0.mk (Kd.R_below (rkx HO_447002) hb); have n1_ := Aside0.mk (blk_below (bkx BK443) hb); have n2_ := Aside0.mk (blk_below (bkx BK444) hb); have n3_ := Aside0.mk (blk_below (bkx BK446) hb); have n4_ := Aside0.mk (below_step (hb3 HB GE443 GE444 GE446) hb); clear HO_447002; clear BK443; clear BK444; clear BK446; clear HB; have HO_447002 := n0_; have BK443 := n1_; have BK444 := n2_; have BK446 := n3_; have HB := n4_; clear n0_ n1_ n2_ n3_ n4_; (try clear hb); (try clear hb2); (try clear hk); (try clear hi); have hcz93_0 : w92.cell? ⟨gb443, 0, none⟩ = some (.int .i64 a0_0) := (blk_cell BK443.out 0).trans rfl; have hcz93_1 : w92.cell? ⟨gb443, 1, none⟩ = some (.int .i64 a0_1) := (blk_cell BK443.out 1).trans rfl; have hcz93_2 : w92.cell? ⟨gb443, 2, none⟩ = some (.slice A0_2 l0_2.length c0_2) := (blk_cell BK443.out 2).trans rfl; have hfz93_0 := blk_frozen BK443.out 0; have hfz93_1 := blk_frozen BK443.out 1; have hfz93_2 := blk_frozen BK443.out 2) | (go_at_call 43; (with_reducible refine (barscanref31_At.calls a0_0 a0_1 _ _ l0_2 (wrap64 ((Int.tmod x6_1 a0_0) + 1)) (wrap64 (Int.tdiv x6_1 a0_0)) false _ ?side1 ?side2 A18.out).mono ?_); (case side1 => repeat (first | exact (Kd.C_below HR0_2.out HB.out) | (with_reducible refine Kd.C_alloc ?_ _) | (with_reducible refine Kd.C_drewN ?_ _) | (with_reducible refine Kd.C_drew ?_))); (case side2 => exact HC0_2.out); rintro e w94 ⟨rfl, hb⟩; have n0_ := Aside0.mk (Kd.R_below (rkx HO_447002) hb); have n1_ := Aside0.mk (blk_below (bkx BK443) hb); have n2_ := Aside0.mk (blk_below (bkx BK444) hb); have n3_ := Aside0.mk (blk_below (bkx BK446) hb); have n4_ := Aside0.mk (below_step (hb3 HB GE443 GE444 GE446) hb); clear HO_447002; clear BK443; clear BK444; clear BK446; clear HB; have HO_447002 := n0_; have BK443 := n1_; have BK444 := n2_; have BK446 := n3_; have HB := n4_; clear n0_ n1_ n2_ n3_ n4_; (try clear hb); (try clear hb2); (try clear hk); (try clear hi)))
           have n0_ := Aside0.mk (Kd.R_drew HO_447002.out)
           have n1_ := Aside0.mk (blk_drew BK443.out)
           have n2_ := Aside0.mk (blk_drew BK444.out)
           have n3_ := Aside0.mk (blk_drew BK446.out)
           have n4_ := Aside0.mk (below_drew1 HB.out)
           clear HO_447002
           clear BK443
           clear BK444
           clear BK446
           clear HB
           have HO_447002 := n0_
           have BK443 := n1_
           have BK444 := n2_
           have BK446 := n3_
           have HB := n4_
           clear n0_ n1_ n2_ n3_ n4_
           have p465 : 0 ≤ (x6_1 : Int) := of_decide_eq_true (by first | (with_reducible assumption) | assumption)
           have q465 : x6_1 < (l0_2.length : Int) := of_decide_eq_true (by first | (with_reducible assumption) | assumption)
           obtain ⟨ad465, e465, hx465_0⟩ := Kd.at_bool HR0_2.out x6_1 p465 q465
           have hw465_0 := hx465_0
           (try rw [← Nbq86.out] at hw465_0)
           (try rw [← Nbq86.out] at hx465_0)
           cases e465
           replace hx465_0 := (HB.out.cell (World.block_lt_of_cell? w _ hx465_0)).trans hx465_0
           replace p465 := eq_true p465
           replace q465 := eq_true q465
           refine start_ (n := 15) (S := fun w' => w'.cell? ⟨gb446, 0, none⟩ = some (.int .i64 a0_0) ∧ w'.cell? ⟨gb446, 1, none⟩ = some (.int .i64 a0_1) ∧ w'.cell? ⟨gb446, 2, none⟩ = some (u447002) ∧ w'.cell? ⟨gb443, 0, none⟩ = some (.int .i64 a0_0) ∧ w'.cell? ⟨gb443, 1, none⟩ = some (.int .i64 a0_1) ∧ w'.cell? ⟨gb443, 2, none⟩ = some (.slice (some ad465) l0_2.length c0_2) ∧ w'.cell? (ad465.add (x6_1).toNat) = some (.bool true)) (ds := [14]) (bA 15 0) (by kernel_rfl) rfl rfl ⟨(blk_cell BK446.out 0).trans rfl, (blk_cell BK446.out 1).trans rfl, (blk_cell BK446.out 2).trans rfl, (blk_cell BK443.out 0).trans rfl, (blk_cell BK443.out 1).trans rfl, (blk_cell BK443.out 2).trans rfl, ((HB.out.cell (World.block_lt_of_cell? w _ hw465_0)).trans hw465_0)⟩ (fun hHeld => ?_); refine with_tabW barscanref37_Outline.tab11 barscanref37_Outline.bits11 (fun HT_ HW_ => ?_)
           generalize w94.drew = w95 at HO_447002 BK443 BK444 BK446 HB hx465_0 hHeld ⊢
           refine pt HT_ 0 62 ?_
           refine pt HT_ 2 64 ?_
           refine pt HT_ 4 66 ?_
           refine tk HT_ HW_ hHeld 1 63 ?_
           refine tk HT_ HW_ hHeld 3 65 ?_
           refine pt HT_ 5 67 ?_
           refine tk HT_ HW_ hHeld 6 68 ?_
           refine pt HT_ 7 69 ?_
           refine pt HT_ 8 70 ?_
           refine pt HT_ 9 71 ?_
           refine pt HT_ 10 72 ?_
           refine one_ (i := 11) (N := some 73) (bA 15 4095) rfl rfl (one_of HT_.out (by kernel_rfl)) (by decide) (fun K hK => ?_)
           refine value_ (w1 := ?_) (v := ?_) (by rfl) rfl ?_ ?_
           rotate_left 2
           ·go_simp
            constructor
            ·rfl
            ·rfl
           refine hK.out _ _ ⟨(blk_cell (blk_alloc BK446.out _) 0).trans rfl, (blk_cell (blk_alloc BK446.out _) 1).trans rfl, (blk_cell (blk_alloc BK446.out _) 2).trans rfl, (blk_cell (blk_alloc BK443.out _) 0).trans rfl, (blk_cell (blk_alloc BK443.out _) 1).trans rfl, (blk_cell (blk_alloc BK443.out _) 2).trans rfl, (World.cell?_alloc_lt _ _ _ (World.block_lt_of_cell? _ _ (((HB.out.cell (World.block_lt_of_cell? w _ hw465_0)).trans hw465_0)))).trans (((HB.out.cell (World.block_lt_of_cell? w _ hw465_0)).trans hw465_0))⟩ (fun hHeld => ?_)
           clear hK K
           refine norm_ (a' := ?_) ?_ ?_
           rotate_left
           ·show Act.put _ (some 73) _ = _
            simp only [Act.put, List.setIfInBounds_toArray, List.set_cons_zero, List.set_cons_succ, i64_w, i32_w]
            rfl
           refine one_ (i := 12) (N := some 74) (bA 15 8191) rfl rfl (one_of HT_.out (by kernel_rfl)) (by decide) (fun K hK => ?_)
           refine Kd.R_append_step Kd.bool (w0 := w) w.heap.size (by rfl) (.tmp 63) (.tmp 73) 22 4 (.bool false) 1 rfl Try.underlying22 info4 rfl (by decide) (by omega) u447002 x447002_1 (!false) [.bool (!false)] (fun _ => True) (fun _ => False) rfl rfl ?aP (fun _ hk => hk.elim) ?aF ?aO ?aB ?aS ?aL ?_
           (case aP => exact rfl)
           (case aB => exact (hb3 HB GE443 GE444 GE446))
           (case aF => exact (fun _ _ => trivial))
           (case aO => exact (rkx HO_447002))
           (case aS => exact (below_size (hb3 HB GE443 GE444 GE446)))
           (case aL => have := LMc88.out; omega)
           intro v467 w96 ho hb hg hat
           rw [← Ny466.out] at ho
           have n0_ := Aside0.mk (blk_grown (g := gb443) (o := .cells #[.int .i64 a0_0, .int .i64 a0_1, .slice (some ad465) l0_2.length c0_2] 24 (0, 0)) (bkx BK443) hg (Kd.R_ne HO_447002.out BK443.out (by decide)))
           have n1_ := Aside0.mk (blk_grown (g := gb444) (o := .cells #[.int .i64 0, .int .i64 0, .slice none 0 0] 24 (0, 0)) (bkx BK444) hg (Kd.R_ne HO_447002.out BK444.out (by decide)))
           have n2_ := Aside0.mk (blk_grown (g := gb446) (o := .cells #[.int .i64 a0_0, .int .i64 a0_1, u447002] 24 (0, 0)) (bkx BK446) hg (Kd.R_ne HO_447002.out BK446.out (by decide)))
           have n3_ := Aside0.mk (hb)
           have n4_ := Aside0.mk (ho)
           clear BK443
           clear BK444
           clear BK446
           clear HB
           clear HO_447002
           have BK443 := n0_
           have BK444 := n1_
           have BK446 := n2_
           have HB := n3_
           have HO468 := n4_
           clear n0_ n1_ n2_ n3_ n4_
           clear ho hb hg hat
           obtain ⟨Ao97, co97, eo97⟩ := Kd.R_slice HO468.out
           (first | subst eo97 | (injection eo97 with f1_ f2_ f3_; have f4_ := f1_.symm; have f5_ := f3_.symm; clear f1_ f2_ f3_; subst f4_; subst f5_))
           refine hK.out _ _ ⟨(blk_cell BK446.out 0).trans rfl, (blk_cell BK446.out 1).trans rfl, (blk_cell BK446.out 2).trans rfl, (blk_cell BK443.out 0).trans rfl, (blk_cell BK443.out 1).trans rfl, (blk_cell BK443.out 2).trans rfl, ((HB.out.cell (World.block_lt_of_cell? w _ hw465_0)).trans hw465_0)⟩ (fun hHeld => ?_)
           clear hK K
           refine norm_ (a' := ?_) ?_ ?_
           rotate_left
           ·show Act.put _ (some 74) _ = _
            simp only [Act.put, List.setIfInBounds_toArray, List.set_cons_zero, List.set_cons_succ, i64_w, i32_w]
            rfl
           refine pt HT_ 13 75 ?_
           refine last_ (i := 14) (N := none) (bA 15 32767) rfl rfl (one_of HT_.out (by kernel_rfl)) (by decide) (fun K hK => ?_)
           have hs98 : w96.cell? ⟨gb446, 2, none⟩ = some (u447002) := (blk_cell BK446.out 2).trans rfl
           have hfs98 := blk_frozen BK446.out 2
           have hns98_0 := NB443_446.out
           have hns98_1 := NB444_446.out
           have hms98_0 := NB446_443.out
           have hms98_1 := NB446_444.out
           refine skip_ (w1 := ?_) (by rfl) rfl ?_ ?_
           rotate_left
           ·go_simp
            rfl
           refine hK.out _ _ ?_
           clear hK K
           refine done_ (done_of HT_.out (by kernel_rfl)) ?_
           try go_wp2
           go_roundg k1
           case measure => have := HK1.out; omega
           case rel => exact ⟨(wrap64 (x6_1 + 1)), (y466), (.slice Ao97 y466.length co97), (by first | rfl | (simp; done) | (simp [*]; done)), H', ⟨by have := HK1.out; omega⟩, ⟨by refine rkt ?_; exact Kd.R_mono (Kd.R_far (p := ⟨gb446, 2, none⟩) (Kd.R_types HO468.out BK446.out (by decide)) (fun _ hk => hk.2) (.slice Ao97 y466.length co97)) (fun _ hk => trivial)⟩, ⟨bky BK443 NB443_446⟩, ⟨bky BK444 NB444_446⟩, ⟨by refine bkt ?_; refine blk_put (cs := #[.int .i64 a0_0, .int .i64 a0_1, u447002]) ?_ 2 _ rfl; refine bkt ?_; exact BK446.out⟩, ⟨hb3 HB GE443 GE444 GE446⟩⟩
          ·rw [if_neg c88] at H
           exact absurd H (by simp)
         ·replace c87 := Bool.eq_false_iff.mpr c87
          subst c87
          have H1 : (if x447002_1.length < 140737488355328 then (barscanref37_Outline.l0 k1 (wrap64 (x6_1 + 1)) a0_0 a0_1 l0_2 a0_0 a0_1 (x447002_1 ++ [false])) else (none)) = some (r1, r2, r3, r4) := by rw [if_neg (show ¬ (false = true) by decide)] at H; exact H
          clear H
          have H := H1
          clear H1
          by_cases c99 : x447002_1.length < 140737488355328
          ·rw [if_pos c99] at H
           have LMc99 := Aside0.mk c99
           clear c99
           obtain ⟨y469, hy469⟩ : ∃ y_ : List Bool, y_ = (x447002_1 ++ [false]) := ⟨_, rfl⟩
           replace H : (barscanref37_Outline.l0 k1 (wrap64 (x6_1 + 1)) a0_0 a0_1 l0_2 a0_0 a0_1 y469) = some (r1, r2, r3, r4) := by first | (rw [hy469]; with_reducible exact H) | (have H2_ := (Option.bind_some _ _).symm.trans H; rw [hy469]; with_reducible exact H2_) | (have H2_ := (Option.bind_some _ _).symm.trans H; with_reducible exact H2_) | with_reducible exact H | (rw [hy469]; exact H) | exact H
           have Ny469 := Aside0.mk hy469
           clear hy469
           have H' := Aside0.mk H
           clear H
           have hnb100 := NB443_444.out
           have hnc100 := NB444_443.out
           have hnb101 := NB443_446.out
           have hnc101 := NB446_443.out
           have hcz102_0 : wr.cell? ⟨gb443, 0, none⟩ = some (.int .i64 a0_0) := (blk_cell BK443.out 0).trans rfl
           have hcz102_1 : wr.cell? ⟨gb443, 1, none⟩ = some (.int .i64 a0_1) := (blk_cell BK443.out 1).trans rfl
           have hcz102_2 : wr.cell? ⟨gb443, 2, none⟩ = some (.slice A0_2 l0_2.length c0_2) := (blk_cell BK443.out 2).trans rfl
           have hfz102_0 := blk_frozen BK443.out 0
           have hfz102_1 := blk_frozen BK443.out 1
           have hfz102_2 := blk_frozen BK443.out 2
           try go_wp2_with (first | ((with_reducible refine gate_callee (f := 43) rfl ?_); refine goesL_ (some 40) rfl rfl Try.func43 (by kernel_rfl) rfl #[.agg #[.int .i64 a0_0, .int .i64 a0_1, .slice A0_2 l0_2.length c0_2], .int .i64 (wrap64 ((Int.tmod x6_1 a0_0) - 1)), .int .i64 (wrap64 (Int.tdiv x6_1 a0_0))] rfl mapx ?_; (with_reducible refine (barscanref31_At.calls a0_0 a0_1 _ _ l0_2 (wrap64 ((Int.tmod x6_1 a0_0) - 1)) (wrap64 (Int.tdiv x6_1 a0_0)) true _ ?side1 ?side2 A16.out).mono ?_); (case side1 => repeat (first | exact (Kd.C_below HR0_2.out HB.out) | (with_reducible refine Kd.C_alloc ?_ _) | (with_reducible refine Kd.C_drewN ?_ _) | (with_reducible refine Kd.C_drew ?_))); (case side2 => exact HC0_2.out); rintro e w103 ⟨rfl, hb⟩; refine ⟨_, rfl, ?_⟩; have n0_ := Aside0.mk (Kd.R_below (rkx HO_447002) hb); have n1_ := Aside0.mk (blk_below (bkx BK443) hb); have n2_ := Aside0.mk (blk_below (bkx BK444) hb); have n3_ := Aside0.mk (blk_below (bkx BK446) hb); have n4_ := Aside0.mk (below_step (hb3 HB GE443 GE444 GE446) hb); clear HO_447002; clear BK443; clear BK444; clear BK446; clear HB; have HO_447002 := n0_; have BK443 := n1_; have BK444 := n2_; have BK446 := n3_; have HB := n4_; clear n0_ n1_ n2_ n3_ n4_; (try clear hb); (try clear hb2); (try clear hk); (try clear hi); have hcz104_0 : w103.cell? ⟨gb443, 0, none⟩ = some (.int .i64 a0_0) := (blk_cell BK443.out 0).trans rfl; have hcz104_1 : w103.cell? ⟨gb443, 1, none⟩ = some (.int .i64 a0_1) := (blk_cell BK443.out 1).trans rfl; have hcz104_2 : w103.cell? ⟨gb443, 2, none⟩ = some (.slice A0_2 l0_2.length c0_2) := (blk_cell BK443.out 2).trans rfl; have hfz104_0 := blk_frozen BK443.out 0; have hfz104_1 := blk_frozen BK443.out 1; have hfz104_2 := blk_frozen BK443.out 2) | (go_at_call 43; (with_reducible refine (barscanref31_At.calls a0_0 a0_1 _ _ l0_2 (wrap64 ((Int.tmod x6_1 a0_0) + 1)) (wrap64 (Int.tdiv x6_1 a0_0)) false _ ?side1 ?side2 A18.out).mono ?_); (case side1 => repeat (first | exact (Kd.C_below HR0_2.out HB.out) | (with_reducible refine Kd.C_alloc ?_ _) | (with_reducible refine Kd.C_drewN ?_ _) | (with_reducible refine Kd.C_drew ?_))); (case side2 => exact HC0_2.out); rintro e w105 ⟨rfl, hb⟩; have n0_ := Aside0.mk (Kd.R_below (rkx HO_447002) hb); have n1_ := Aside0.mk (blk_below (bkx BK443) hb); have n2_ := Aside0.mk (blk_below (bkx BK444) hb); have n3_ := Aside0.mk (blk_below (bkx BK446) hb); have n4_ := Aside0.mk (below_step (hb3 HB GE443 GE444 GE446) hb); clear HO_447002; clear BK443; clear BK444; clear BK446; clear HB; have HO_447002 := n0_; have BK443 := n1_; have BK444 := n2_; have BK446 := n3_; have HB := n4_; clear n0_ n1_ n2_ n3_ n4_; (try clear hb); (try clear hb2); (try clear hk); (try clear hi)))
           have n0_ := Aside0.mk (Kd.R_drew HO_447002.out)
           have n1_ := Aside0.mk (blk_drew BK443.out)
           have n2_ := Aside0.mk (blk_drew BK444.out)
           have n3_ := Aside0.mk (blk_drew BK446.out)
           have n4_ := Aside0.mk (below_drew1 HB.out)
           clear HO_447002
           clear BK443
           clear BK444
           clear BK446
           clear HB
           have HO_447002 := n0_
           have BK443 := n1_
           have BK444 := n2_
           have BK446 := n3_
           have HB := n4_
           clear n0_ n1_ n2_ n3_ n4_
           have p465 : 0 ≤ (x6_1 : Int) := of_decide_eq_true (by first | (with_reducible assumption) | assumption)
           have q465 : x6_1 < (l0_2.length : Int) := of_decide_eq_true (by first | (with_reducible assumption) | assumption)
           obtain ⟨ad465, e465, hx465_0⟩ := Kd.at_bool HR0_2.out x6_1 p465 q465
           have hw465_0 := hx465_0
           (try rw [← Nbq86.out] at hw465_0)
           (try rw [← Nbq86.out] at hx465_0)
           cases e465
           replace hx465_0 := (HB.out.cell (World.block_lt_of_cell? w _ hx465_0)).trans hx465_0
           replace p465 := eq_true p465
           replace q465 := eq_true q465
           refine start_ (n := 15) (S := fun w' => w'.cell? ⟨gb446, 0, none⟩ = some (.int .i64 a0_0) ∧ w'.cell? ⟨gb446, 1, none⟩ = some (.int .i64 a0_1) ∧ w'.cell? ⟨gb446, 2, none⟩ = some (u447002) ∧ w'.cell? ⟨gb443, 0, none⟩ = some (.int .i64 a0_0) ∧ w'.cell? ⟨gb443, 1, none⟩ = some (.int .i64 a0_1) ∧ w'.cell? ⟨gb443, 2, none⟩ = some (.slice (some ad465) l0_2.length c0_2) ∧ w'.cell? (ad465.add (x6_1).toNat) = some (.bool false)) (ds := [14]) (bA 15 0) (by kernel_rfl) rfl rfl ⟨(blk_cell BK446.out 0).trans rfl, (blk_cell BK446.out 1).trans rfl, (blk_cell BK446.out 2).trans rfl, (blk_cell BK443.out 0).trans rfl, (blk_cell BK443.out 1).trans rfl, (blk_cell BK443.out 2).trans rfl, ((HB.out.cell (World.block_lt_of_cell? w _ hw465_0)).trans hw465_0)⟩ (fun hHeld => ?_); refine with_tabW barscanref37_Outline.tab11 barscanref37_Outline.bits11 (fun HT_ HW_ => ?_)
           generalize w105.drew = w106 at HO_447002 BK443 BK444 BK446 HB hx465_0 hHeld ⊢
           refine pt HT_ 0 62 ?_
           refine pt HT_ 2 64 ?_
           refine pt HT_ 4 66 ?_
           refine tk HT_ HW_ hHeld 1 63 ?_
           refine tk HT_ HW_ hHeld 3 65 ?_
           refine pt HT_ 5 67 ?_
           refine tk HT_ HW_ hHeld 6 68 ?_
           refine pt HT_ 7 69 ?_
           refine pure_ (i := 8) (N := some 70) (v := undef) (a' := ?_) (bA 15 511) rfl rfl (any_of HT_.out (by kernel_rfl)) (fun _ _ _ h => h) (Or.inr ⟨by rfl, rfl⟩) ?_ ?_
           rotate_left
           ·simp only [Act.put, List.setIfInBounds_toArray, List.set_cons_zero, List.set_cons_succ, i64_w, i32_w]
            rfl
           refine pure_ (i := 9) (N := some 71) (v := undef) (a' := ?_) (bA 15 1023) rfl rfl (any_of HT_.out (by kernel_rfl)) (fun _ _ _ h => h) (Or.inr ⟨by rfl, rfl⟩) ?_ ?_
           rotate_left
           ·simp only [Act.put, List.setIfInBounds_toArray, List.set_cons_zero, List.set_cons_succ, i64_w, i32_w]
            rfl
           refine pt HT_ 10 72 ?_
           refine one_ (i := 11) (N := some 73) (bA 15 4095) rfl rfl (one_of HT_.out (by kernel_rfl)) (by decide) (fun K hK => ?_)
           refine value_ (w1 := ?_) (v := ?_) (by rfl) rfl ?_ ?_
           rotate_left 2
           ·go_simp
            constructor
            ·rfl
            ·rfl
           refine hK.out _ _ ⟨(blk_cell (blk_alloc BK446.out _) 0).trans rfl, (blk_cell (blk_alloc BK446.out _) 1).trans rfl, (blk_cell (blk_alloc BK446.out _) 2).trans rfl, (blk_cell (blk_alloc BK443.out _) 0).trans rfl, (blk_cell (blk_alloc BK443.out _) 1).trans rfl, (blk_cell (blk_alloc BK443.out _) 2).trans rfl, (World.cell?_alloc_lt _ _ _ (World.block_lt_of_cell? _ _ (((HB.out.cell (World.block_lt_of_cell? w _ hw465_0)).trans hw465_0)))).trans (((HB.out.cell (World.block_lt_of_cell? w _ hw465_0)).trans hw465_0))⟩ (fun hHeld => ?_)
           clear hK K
           refine norm_ (a' := ?_) ?_ ?_
           rotate_left
           ·show Act.put _ (some 73) _ = _
            simp only [Act.put, List.setIfInBounds_toArray, List.set_cons_zero, List.set_cons_succ, i64_w, i32_w]
            rfl
           refine one_ (i := 12) (N := some 74) (bA 15 8191) rfl rfl (one_of HT_.out (by kernel_rfl)) (by decide) (fun K hK => ?_)
           refine Kd.R_append_step Kd.bool (w0 := w) w.heap.size (by rfl) (.tmp 63) (.tmp 73) 22 4 (.bool false) 1 rfl Try.underlying22 info4 rfl (by decide) (by omega) u447002 x447002_1 false [.bool false] (fun _ => True) (fun _ => False) rfl rfl ?aP (fun _ hk => hk.elim) ?aF ?aO ?aB ?aS ?aL ?_
           (case aP => exact rfl)
           (case aB => exact (hb3 HB GE443 GE444 GE446))
           (case aF => exact (fun _ _ => trivial))
           (case aO => exact (rkx HO_447002))
           (case aS => exact (below_size (hb3 HB GE443 GE444 GE446)))
           (case aL => have := LMc99.out; omega)
           intro v470 w107 ho hb hg hat
           rw [← Ny469.out] at ho
           have n0_ := Aside0.mk (blk_grown (g := gb443) (o := .cells #[.int .i64 a0_0, .int .i64 a0_1, .slice (some ad465) l0_2.length c0_2] 24 (0, 0)) (bkx BK443) hg (Kd.R_ne HO_447002.out BK443.out (by decide)))
           have n1_ := Aside0.mk (blk_grown (g := gb444) (o := .cells #[.int .i64 0, .int .i64 0, .slice none 0 0] 24 (0, 0)) (bkx BK444) hg (Kd.R_ne HO_447002.out BK444.out (by decide)))
           have n2_ := Aside0.mk (blk_grown (g := gb446) (o := .cells #[.int .i64 a0_0, .int .i64 a0_1, u447002] 24 (0, 0)) (bkx BK446) hg (Kd.R_ne HO_447002.out BK446.out (by decide)))
           have n3_ := Aside0.mk (hb)
           have n4_ := Aside0.mk (ho)
           clear BK443
           clear BK444
           clear BK446
           clear HB
           clear HO_447002
           have BK443 := n0_
           have BK444 := n1_
           have BK446 := n2_
           have HB := n3_
           have HO471 := n4_
           clear n0_ n1_ n2_ n3_ n4_
           clear ho hb hg hat
           obtain ⟨Ao108, co108, eo108⟩ := Kd.R_slice HO471.out
           (first | subst eo108 | (injection eo108 with f1_ f2_ f3_; have f4_ := f1_.symm; have f5_ := f3_.symm; clear f1_ f2_ f3_; subst f4_; subst f5_))
           refine hK.out _ _ ⟨(blk_cell BK446.out 0).trans rfl, (blk_cell BK446.out 1).trans rfl, (blk_cell BK446.out 2).trans rfl, (blk_cell BK443.out 0).trans rfl, (blk_cell BK443.out 1).trans rfl, (blk_cell BK443.out 2).trans rfl, ((HB.out.cell (World.block_lt_of_cell? w _ hw465_0)).trans hw465_0)⟩ (fun hHeld => ?_)
           clear hK K
           refine norm_ (a' := ?_) ?_ ?_
           rotate_left
           ·show Act.put _ (some 74) _ = _
            simp only [Act.put, List.setIfInBounds_toArray, List.set_cons_zero, List.set_cons_succ, i64_w, i32_w]
            rfl
           refine pt HT_ 13 75 ?_
           refine last_ (i := 14) (N := none) (bA 15 32767) rfl rfl (one_of HT_.out (by kernel_rfl)) (by decide) (fun K hK => ?_)
           have hs109 : w107.cell? ⟨gb446, 2, none⟩ = some (u447002) := (blk_cell BK446.out 2).trans rfl
           have hfs109 := blk_frozen BK446.out 2
           have hns109_0 := NB443_446.out
           have hns109_1 := NB444_446.out
           have hms109_0 := NB446_443.out
           have hms109_1 := NB446_444.out
           refine skip_ (w1 := ?_) (by rfl) rfl ?_ ?_
           rotate_left
           ·go_simp
            rfl
           refine hK.out _ _ ?_
           clear hK K
           refine done_ (done_of HT_.out (by kernel_rfl)) ?_
           try go_wp2
           go_roundg k1
           case measure => have := HK1.out; omega
           case rel => exact ⟨(wrap64 (x6_1 + 1)), (y469), (.slice Ao108 y469.length co108), (by first | rfl | (simp; done) | (simp [*]; done)), H', ⟨by have := HK1.out; omega⟩, ⟨by refine rkt ?_; exact Kd.R_mono (Kd.R_far (p := ⟨gb446, 2, none⟩) (Kd.R_types HO471.out BK446.out (by decide)) (fun _ hk => hk.2) (.slice Ao108 y469.length co108)) (fun _ hk => trivial)⟩, ⟨bky BK443 NB443_446⟩, ⟨bky BK444 NB444_446⟩, ⟨by refine bkt ?_; refine blk_put (cs := #[.int .i64 a0_0, .int .i64 a0_1, u447002]) ?_ 2 _ rfl; refine bkt ?_; exact BK446.out⟩, ⟨hb3 HB GE443 GE444 GE446⟩⟩
          ·rw [if_neg c99] at H
           exact absurd H (by simp)
        ·rw [if_neg c85] at H
         exact absurd H (by simp)
      ·replace c17 := Bool.eq_false_iff.mpr c17
       subst c17
       have H1 : (if 0 ≤ x6_1 then (if rdOf false l0_2 x6_1 = true then (if x447002_1.length < 140737488355328 then (barscanref37_Outline.l0 k1 (wrap64 (x6_1 + 1)) a0_0 a0_1 l0_2 a0_0 a0_1 (x447002_1 ++ [!false])) else (none)) else (if x447002_1.length < 140737488355328 then (barscanref37_Outline.l0 k1 (wrap64 (x6_1 + 1)) a0_0 a0_1 l0_2 a0_0 a0_1 (x447002_1 ++ [false])) else (none))) else (none)) = some (r1, r2, r3, r4) := by rw [if_neg (show ¬ (false = true) by decide)] at H; exact H
       clear H
       have H := H1
       clear H1
       by_cases c110 : 0 ≤ x6_1
       ·rw [if_pos c110] at H
        have c110b0 : decide (0 ≤ x6_1) = true := decide_eq_true c110
        clear c110
        obtain ⟨bq111, hbq111⟩ : ∃ b_ : Bool, b_ = (rdOf false l0_2 x6_1) := ⟨_, rfl⟩
        replace H : (if bq111 = true then (if x447002_1.length < 140737488355328 then (barscanref37_Outline.l0 k1 (wrap64 (x6_1 + 1)) a0_0 a0_1 l0_2 a0_0 a0_1 (x447002_1 ++ [!false])) else (none)) else (if x447002_1.length < 140737488355328 then (barscanref37_Outline.l0 k1 (wrap64 (x6_1 + 1)) a0_0 a0_1 l0_2 a0_0 a0_1 (x447002_1 ++ [false])) else (none))) = some (r1, r2, r3, r4) := by rw [← hbq111] at H; exact H
        have Nbq111 := Aside0.mk hbq111
        clear hbq111
        by_cases c112 : bq111 = true
        ·subst c112
         have H1 : (if x447002_1.length < 140737488355328 then (barscanref37_Outline.l0 k1 (wrap64 (x6_1 + 1)) a0_0 a0_1 l0_2 a0_0 a0_1 (x447002_1 ++ [!false])) else (none)) = some (r1, r2, r3, r4) := by rw [if_pos rfl] at H; exact H
         clear H
         have H := H1
         clear H1
         by_cases c113 : x447002_1.length < 140737488355328
         ·rw [if_pos c113] at H
          have LMc113 := Aside0.mk c113
          clear c113
          obtain ⟨y473, hy473⟩ : ∃ y_ : List Bool, y_ = (x447002_1 ++ [!false]) := ⟨_, rfl⟩
          replace H : (barscanref37_Outline.l0 k1 (wrap64 (x6_1 + 1)) a0_0 a0_1 l0_2 a0_0 a0_1 y473) = some (r1, r2, r3, r4) := by first | (rw [hy473]; with_reducible exact H) | (have H2_ := (Option.bind_some _ _).symm.trans H; rw [hy473]; with_reducible exact H2_) | (have H2_ := (Option.bind_some _ _).symm.trans H; with_reducible exact H2_) | with_reducible exact H | (rw [hy473]; exact H) | exact H
          have Ny473 := Aside0.mk hy473
          clear hy473
          have H' := Aside0.mk H
          clear H
          have hnb114 := NB443_444.out
          have hnc114 := NB444_443.out
          have hnb115 := NB443_446.out
          have hnc115 := NB446_443.out
          have hcz116_0 : wr.cell? ⟨gb443, 0, none⟩ = some (.int .i64 a0_0) := (blk_cell BK443.out 0).trans rfl
          have hcz116_1 : wr.cell? ⟨gb443, 1, none⟩ = some (.int .i64 a0_1) := (blk_cell BK443.out 1).trans rfl
          have hcz116_2 : wr.cell? ⟨gb443, 2, none⟩ = some (.slice A0_2 l0_2.length c0_2) := (blk_cell BK443.out 2).trans rfl
          have hfz116_0 := blk_frozen BK443.out 0
          have hfz116_1 := blk_frozen BK443.out 1
          have hfz116_2 := blk_frozen BK443.out 2
          try go_wp2_with (first | ((with_reducible refine gate_callee (f := 43) rfl ?_); refine goesL_ (some 40) rfl rfl Try.func43 (by kernel_rfl) rfl #[.agg #[.int .i64 a0_0, .int .i64 a0_1, .slice A0_2 l0_2.length c0_2], .int .i64 (wrap64 ((Int.tmod x6_1 a0_0) - 1)), .int .i64 (wrap64 (Int.tdiv x6_1 a0_0))] rfl mapx ?_; (with_reducible refine (barscanref31_At.calls a0_0 a0_1 _ _ l0_2 (wrap64 ((Int.tmod x6_1 a0_0) - 1)) (wrap64 (Int.tdiv x6_1 a0_0)) false _ ?side1 ?side2 A16.out).mono ?_); (case side1 => repeat (first | exact (Kd.C_below HR0_2.out HB.out) | (with_reducible refine Kd.C_alloc ?_ _) | (with_reducible refine Kd.C_drewN ?_ _) | (with_reducible refine Kd.C_drew ?_))); (case side2 => exact HC0_2.out); rintro e w117 ⟨rfl, hb⟩; refine ⟨_, rfl, ?_⟩; have n0_ := Aside0.mk (Kd.R_below (rkx HO_447002) hb); have n1_ := Aside0.mk (blk_below (bkx BK443) hb); have n2_ := Aside0.mk (blk_below (bkx BK444) hb); have n3_ := Aside0.mk (blk_below (bkx BK446) hb); have n4_ := Aside0.mk (below_step (hb3 HB GE443 GE444 GE446) hb); clear HO_447002; clear BK443; clear BK444; clear BK446; clear HB; have HO_447002 := n0_; have BK443 := n1_; have BK444 := n2_; have BK446 := n3_; have HB := n4_; clear n0_ n1_ n2_ n3_ n4_; (try clear hb); (try clear hb2); (try clear hk); (try clear hi)))
          have n0_ := Aside0.mk (Kd.R_drew HO_447002.out)
          have n1_ := Aside0.mk (blk_drew BK443.out)
          have n2_ := Aside0.mk (blk_drew BK444.out)
          have n3_ := Aside0.mk (blk_drew BK446.out)
          have n4_ := Aside0.mk (below_drew1 HB.out)
          clear HO_447002
          clear BK443
          clear BK444
          clear BK446
          clear HB
          have HO_447002 := n0_
          have BK443 := n1_
          have BK444 := n2_
          have BK446 := n3_
          have HB := n4_
          clear n0_ n1_ n2_ n3_ n4_
          have p472 : 0 ≤ (x6_1 : Int) := of_decide_eq_true (by first | (with_reducible assumption) | assumption)
          have q472 : x6_1 < (l0_2.length : Int) := of_decide_eq_true (by first | (with_reducible assumption) | assumption)
          obtain ⟨ad472, e472, hx472_0⟩ := Kd.at_bool HR0_2.out x6_1 p472 q472
          have hw472_0 := hx472_0
          (try rw [← Nbq111.out] at hw472_0)
          (try rw [← Nbq111.out] at hx472_0)
          cases e472
          replace hx472_0 := (HB.out.cell (World.block_lt_of_cell? w _ hx472_0)).trans hx472_0
          replace p472 := eq_true p472
          replace q472 := eq_true q472
          refine start_ (n := 15) (S := fun w' => w'.cell? ⟨gb446, 0, none⟩ = some (.int .i64 a0_0) ∧ w'.cell? ⟨gb446, 1, none⟩ = some (.int .i64 a0_1) ∧ w'.cell? ⟨gb446, 2, none⟩ = some (u447002) ∧ w'.cell? ⟨gb443, 0, none⟩ = some (.int .i64 a0_0) ∧ w'.cell? ⟨gb443, 1, none⟩ = some (.int .i64 a0_1) ∧ w'.cell? ⟨gb443, 2, none⟩ = some (.slice (some ad472) l0_2.length c0_2) ∧ w'.cell? (ad472.add (x6_1).toNat) = some (.bool true)) (ds := [14]) (bA 15 0) (by kernel_rfl) rfl rfl ⟨(blk_cell BK446.out 0).trans rfl, (blk_cell BK446.out 1).trans rfl, (blk_cell BK446.out 2).trans rfl, (blk_cell BK443.out 0).trans rfl, (blk_cell BK443.out 1).trans rfl, (blk_cell BK443.out 2).trans rfl, ((HB.out.cell (World.block_lt_of_cell? w _ hw472_0)).trans hw472_0)⟩ (fun hHeld => ?_); refine with_tabW barscanref37_Outline.tab11 barscanref37_Outline.bits11 (fun HT_ HW_ => ?_)
          generalize w117.drew = w118 at HO_447002 BK443 BK444 BK446 HB hx472_0 hHeld ⊢
          refine pt HT_ 0 62 ?_
          refine pt HT_ 2 64 ?_
          refine pt HT_ 4 66 ?_
          refine tk HT_ HW_ hHeld 1 63 ?_
          refine tk HT_ HW_ hHeld 3 65 ?_
          refine pt HT_ 5 67 ?_
          refine tk HT_ HW_ hHeld 6 68 ?_
          refine pt HT_ 7 69 ?_
          refine pt HT_ 8 70 ?_
          refine pt HT_ 9 71 ?_
          refine pt HT_ 10 72 ?_
          refine one_ (i := 11) (N := some 73) (bA 15 4095) rfl rfl (one_of HT_.out (by kernel_rfl)) (by decide) (fun K hK => ?_)
          refine value_ (w1 := ?_) (v := ?_) (by rfl) rfl ?_ ?_
          rotate_left 2
          ·go_simp
           constructor
           ·rfl
           ·rfl
          refine hK.out _ _ ⟨(blk_cell (blk_alloc BK446.out _) 0).trans rfl, (blk_cell (blk_alloc BK446.out _) 1).trans rfl, (blk_cell (blk_alloc BK446.out _) 2).trans rfl, (blk_cell (blk_alloc BK443.out _) 0).trans rfl, (blk_cell (blk_alloc BK443.out _) 1).trans rfl, (blk_cell (blk_alloc BK443.out _) 2).trans rfl, (World.cell?_alloc_lt _ _ _ (World.block_lt_of_cell? _ _ (((HB.out.cell (World.block_lt_of_cell? w _ hw472_0)).trans hw472_0)))).trans (((HB.out.cell (World.block_lt_of_cell? w _ hw472_0)).trans hw472_0))⟩ (fun hHeld => ?_)
          clear hK K
          refine norm_ (a' := ?_) ?_ ?_
          rotate_left
          ·show Act.put _ (some 73) _ = _
           simp only [Act.put, List.setIfInBounds_toArray, List.set_cons_zero, List.set_cons_succ, i64_w, i32_w]
           rfl
          refine one_ (i := 12) (N := some 74) (bA 15 8191) rfl rfl (one_of HT_.out (by kernel_rfl)) (by decide) (fun K hK => ?_)
          refine Kd.R_append_step Kd.bool (w0 := w) w.heap.size (by rfl) (.tmp 63) (.tmp 73) 22 4 (.bool false) 1 rfl Try.underlying22 info4 rfl (by decide) (by omega) u447002 x447002_1 (!false) [.bool (!false)] (fun _ => True) (fun _ => False) rfl rfl ?aP (fun _ hk => hk.elim) ?aF ?aO ?aB ?aS ?aL ?_
          (case aP => exact rfl)
          (case aB => exact (hb3 HB GE443 GE444 GE446))
          (case aF => exact (fun _ _ => trivial))
          (case aO => exact (rkx HO_447002))
          (case aS => exact (below_size (hb3 HB GE443 GE444 GE446)))
          (case aL => have := LMc113.out; omega)
          intro v474 w119 ho hb hg hat
          rw [← Ny473.out] at ho
          have n0_ := Aside0.mk (blk_grown (g := gb443) (o := .cells #[.int .i64 a0_0, .int .i64 a0_1, .slice (some ad472) l0_2.length c0_2] 24 (0, 0)) (bkx BK443) hg (Kd.R_ne HO_447002.out BK443.out (by decide)))
          have n1_ := Aside0.mk (blk_grown (g := gb444) (o := .cells #[.int .i64 0, .int .i64 0, .slice none 0 0] 24 (0, 0)) (bkx BK444) hg (Kd.R_ne HO_447002.out BK444.out (by decide)))
          have n2_ := Aside0.mk (blk_grown (g := gb446) (o := .cells #[.int .i64 a0_0, .int .i64 a0_1, u447002] 24 (0, 0)) (bkx BK446) hg (Kd.R_ne HO_447002.out BK446.out (by decide)))
          have n3_ := Aside0.mk (hb)
          have n4_ := Aside0.mk (ho)
          clear BK443
          clear BK444
          clear BK446
          clear HB
          clear HO_447002
          have BK443 := n0_
          have BK444 := n1_
          have BK446 := n2_
          have HB := n3_
          have HO475 := n4_
          clear n0_ n1_ n2_ n3_ n4_
          clear ho hb hg hat
          obtain ⟨Ao120, co120, eo120⟩ := Kd.R_slice HO475.out
          (first | subst eo120 | (injection eo120 with f1_ f2_ f3_; have f4_ := f1_.symm; have f5_ := f3_.symm; clear f1_ f2_ f3_; subst f4_; subst f5_))
          refine hK.out _ _ ⟨(blk_cell BK446.out 0).trans rfl, (blk_cell BK446.out 1).trans rfl, (blk_cell BK446.out 2).trans rfl, (blk_cell BK443.out 0).trans rfl, (blk_cell BK443.out 1).trans rfl, (blk_cell BK443.out 2).trans rfl, ((HB.out.cell (World.block_lt_of_cell? w _ hw472_0)).trans hw472_0)⟩ (fun hHeld => ?_)
          clear hK K
          refine norm_ (a' := ?_) ?_ ?_
          rotate_left
          ·show Act.put _ (some 74) _ = _
           simp only [Act.put, List.setIfInBounds_toArray, List.set_cons_zero, List.set_cons_succ, i64_w, i32_w]
           rfl
          refine pt HT_ 13 75 ?_
          refine last_ (i := 14) (N := none) (bA 15 32767) rfl rfl (one_of HT_.out (by kernel_rfl)) (by decide) (fun K hK => ?_)
          have hs121 : w119.cell? ⟨gb446, 2, none⟩ = some (u447002) := (blk_cell BK446.out 2).trans rfl
          have hfs121 := blk_frozen BK446.out 2
          have hns121_0 := NB443_446.out
          have hns121_1 := NB444_446.out
          have hms121_0 := NB446_443.out
          have hms121_1 := NB446_444.out
          refine skip_ (w1 := ?_) (by rfl) rfl ?_ ?_
          rotate_left
          ·go_simp
           rfl
          refine hK.out _ _ ?_
          clear hK K
          refine done_ (done_of HT_.out (by kernel_rfl)) ?_
          try go_wp2
          go_roundg k1
          case measure => have := HK1.out; omega
          case rel => exact ⟨(wrap64 (x6_1 + 1)), (y473), (.slice Ao120 y473.length co120), (by first | rfl | (simp; done) | (simp [*]; done)), H', ⟨by have := HK1.out; omega⟩, ⟨by refine rkt ?_; exact Kd.R_mono (Kd.R_far (p := ⟨gb446, 2, none⟩) (Kd.R_types HO475.out BK446.out (by decide)) (fun _ hk => hk.2) (.slice Ao120 y473.length co120)) (fun _ hk => trivial)⟩, ⟨bky BK443 NB443_446⟩, ⟨bky BK444 NB444_446⟩, ⟨by refine bkt ?_; refine blk_put (cs := #[.int .i64 a0_0, .int .i64 a0_1, u447002]) ?_ 2 _ rfl; refine bkt ?_; exact BK446.out⟩, ⟨hb3 HB GE443 GE444 GE446⟩⟩
         ·rw [if_neg c113] at H
          exact absurd H (by simp)
        ·replace c112 := Bool.eq_false_iff.mpr c112
         subst c112
         have H1 : (if x447002_1.length < 140737488355328 then (barscanref37_Outline.l0 k1 (wrap64 (x6_1 + 1)) a0_0 a0_1 l0_2 a0_0 a0_1 (x447002_1 ++ [false])) else (none)) = some (r1, r2, r3, r4) := by rw [if_neg (show ¬ (false = true) by decide)] at H; exact H
         clear H
         have H := H1
         clear H1
         by_cases c122 : x447002_1.length < 140737488355328
         ·rw [if_pos c122] at H
          have LMc122 := Aside0.mk c122
          clear c122
          obtain ⟨y476, hy476⟩ : ∃ y_ : List Bool, y_ = (x447002_1 ++ [false]) := ⟨_, rfl⟩
          replace H : (barscanref37_Outline.l0 k1 (wrap64 (x6_1 + 1)) a0_0 a0_1 l0_2 a0_0 a0_1 y476) = some (r1, r2, r3, r4) := by first | (rw [hy476]; with_reducible exact H) | (have H2_ := (Option.bind_some _ _).symm.trans H; rw [hy476]; with_reducible exact H2_) | (have H2_ := (Option.bind_some _ _).symm.trans H; with_reducible exact H2_) | with_reducible exact H | (rw [hy476]; exact H) | exact H
          have Ny476 := Aside0.mk hy476
          clear hy476
          have H' := Aside0.mk H
          clear H
          have hnb123 := NB443_444.out
          have hnc123 := NB444_443.out
          have hnb124 := NB443_446.out
          have hnc124 := NB446_443.out
          have hcz125_0 : wr.cell? ⟨gb443, 0, none⟩ = some (.int .i64 a0_0) := (blk_cell BK443.out 0).trans rfl
          have hcz125_1 : wr.cell? ⟨gb443, 1, none⟩ = some (.int .i64 a0_1) := (blk_cell BK443.out 1).trans rfl
          have hcz125_2 : wr.cell? ⟨gb443, 2, none⟩ = some (.slice A0_2 l0_2.length c0_2) := (blk_cell BK443.out 2).trans rfl
          have hfz125_0 := blk_frozen BK443.out 0
          have hfz125_1 := blk_frozen BK443.out 1
          have hfz125_2 := blk_frozen BK443.out 2
          try go_wp2_with (first | ((with_reducible refine gate_callee (f := 43) rfl ?_); refine goesL_ (some 40) rfl rfl Try.func43 (by kernel_rfl) rfl #[.agg #[.int .i64 a0_0, .int .i64 a0_1, .slice A0_2 l0_2.length c0_2], .int .i64 (wrap64 ((Int.tmod x6_1 a0_0) - 1)), .int .i64 (wrap64 (Int.tdiv x6_1 a0_0))] rfl mapx ?_; (with_reducible refine (barscanref31_At.calls a0_0 a0_1 _ _ l0_2 (wrap64 ((Int.tmod x6_1 a0_0) - 1)) (wrap64 (Int.tdiv x6_1 a0_0)) false _ ?side1 ?side2 A16.out).mono ?_); (case side1 => repeat (first | exact (Kd.C_below HR0_2.out HB.out) | (with_reducible refine Kd.C_alloc ?_ _) | (with_reducible refine Kd.C_drewN ?_ _) | (with_reducible refine Kd.C_drew ?_))); (case side2 => exact HC0_2.out); rintro e w126 ⟨rfl, hb⟩; refine ⟨_, rfl, ?_⟩; have n0_ := Aside0.mk (Kd.R_below (rkx HO_447002) hb); have n1_ := Aside0.mk (blk_below (bkx BK443) hb); have n2_ := Aside0.mk (blk_below (bkx BK444) hb); have n3_ := Aside0.mk (blk_below (bkx BK446) hb); have n4_ := Aside0.mk (below_step (hb3 HB GE443 GE444 GE446) hb); clear HO_447002; clear BK443; clear BK444; clear BK446; clear HB; have HO_447002 := n0_; have BK443 := n1_; have BK444 := n2_; have BK446 := n3_; have HB := n4_; clear n0_ n1_ n2_ n3_ n4_; (try clear hb); (try clear hb2); (try clear hk); (try clear hi)))
          have n0_ := Aside0.mk (Kd.R_drew HO_447002.out)
          have n1_ := Aside0.mk (blk_drew BK443.out)
          have n2_ := Aside0.mk (blk_drew BK444.out)
          have n3_ := Aside0.mk (blk_drew BK446.out)
          have n4_ := Aside0.mk (below_drew1 HB.out)
          clear HO_447002
          clear BK443
          clear BK444
          clear BK446
          clear HB
          have HO_447002 := n0_
          have BK443 := n1_
          have BK444 := n2_
          have BK446 := n3_
          have HB := n4_
          clear n0_ n1_ n2_ n3_ n4_
          have p472 : 0 ≤ (x6_1 : Int) := of_decide_eq_true (by first | (with_reducible assumption) | assumption)
          have q472 : x6_1 < (l0_2.length : Int) := of_decide_eq_true (by first | (with_reducible assumption) | assumption)
          obtain ⟨ad472, e472, hx472_0⟩ := Kd.at_bool HR0_2.out x6_1 p472 q472
          have hw472_0 := hx472_0
          (try rw [← Nbq111.out] at hw472_0)
          (try rw [← Nbq111.out] at hx472_0)
          cases e472
          replace hx472_0 := (HB.out.cell (World.block_lt_of_cell? w _ hx472_0)).trans hx472_0
          replace p472 := eq_true p472
          replace q472 := eq_true q472
          refine start_ (n := 15) (S := fun w' => w'.cell? ⟨gb446, 0, none⟩ = some (.int .i64 a0_0) ∧ w'.cell? ⟨gb446, 1, none⟩ = some (.int .i64 a0_1) ∧ w'.cell? ⟨gb446, 2, none⟩ = some (u447002) ∧ w'.cell? ⟨gb443, 0, none⟩ = some (.int .i64 a0_0) ∧ w'.cell? ⟨gb443, 1, none⟩ = some (.int .i64 a0_1) ∧ w'.cell? ⟨gb443, 2, none⟩ = some (.slice (some ad472) l0_2.length c0_2) ∧ w'.cell? (ad472.add (x6_1).toNat) = some (.bool false)) (ds := [14]) (bA 15 0) (by kernel_rfl) rfl rfl ⟨(blk_cell BK446.out 0).trans rfl, (blk_cell BK446.out 1).trans rfl, (blk_cell BK446.out 2).trans rfl, (blk_cell BK443.out 0).trans rfl, (blk_cell BK443.out 1).trans rfl, (blk_cell BK443.out 2).trans rfl, ((HB.out.cell (World.block_lt_of_cell? w _ hw472_0)).trans hw472_0)⟩ (fun hHeld => ?_); refine with_tabW barscanref37_Outline.tab11 barscanref37_Outline.bits11 (fun HT_ HW_ => ?_)
          generalize w126.drew = w127 at HO_447002 BK443 BK444 BK446 HB hx472_0 hHeld ⊢
          refine pt HT_ 0 62 ?_
          refine pt HT_ 2 64 ?_
          refine pt HT_ 4 66 ?_
          refine tk HT_ HW_ hHeld 1 63 ?_
          refine tk HT_ HW_ hHeld 3 65 ?_
          refine pt HT_ 5 67 ?_
          refine tk HT_ HW_ hHeld 6 68 ?_
          refine pt HT_ 7 69 ?_
          refine pure_ (i := 8) (N := some 70) (v := undef) (a' := ?_) (bA 15 511) rfl rfl (any_of HT_.out (by kernel_rfl)) (fun _ _ _ h => h) (Or.inr ⟨by rfl, rfl⟩) ?_ ?_
          rotate_left
          ·simp only [Act.put, List.setIfInBounds_toArray, List.set_cons_zero, List.set_cons_succ, i64_w, i32_w]
           rfl
          refine pure_ (i := 9) (N := some 71) (v := undef) (a' := ?_) (bA 15 1023) rfl rfl (any_of HT_.out (by kernel_rfl)) (fun _ _ _ h => h) (Or.inr ⟨by rfl, rfl⟩) ?_ ?_
          rotate_left
          ·simp only [Act.put, List.setIfInBounds_toArray, List.set_cons_zero, List.set_cons_succ, i64_w, i32_w]
           rfl
          refine pt HT_ 10 72 ?_
          refine one_ (i := 11) (N := some 73) (bA 15 4095) rfl rfl (one_of HT_.out (by kernel_rfl)) (by decide) (fun K hK => ?_)
          refine value_ (w1 := ?_) (v := ?_) (by rfl) rfl ?_ ?_
          rotate_left 2
          ·go_simp
           constructor
           ·rfl
           ·rfl
          refine hK.out _ _ ⟨(blk_cell (blk_alloc BK446.out _) 0).trans rfl, (blk_cell (blk_alloc BK446.out _) 1).trans rfl, (blk_cell (blk_alloc BK446.out _) 2).trans rfl, (blk_cell (blk_alloc BK443.out _) 0).trans rfl, (blk_cell (blk_alloc BK443.out _) 1).trans rfl, (blk_cell (blk_alloc BK443.out _) 2).trans rfl, (World.cell?_alloc_lt _ _ _ (World.block_lt_of_cell? _ _ (((HB.out.cell (World.block_lt_of_cell? w _ hw472_0)).trans hw472_0)))).trans (((HB.out.cell (World.block_lt_of_cell? w _ hw472_0)).trans hw472_0))⟩ (fun hHeld => ?_)
          clear hK K
          refine norm_ (a' := ?_) ?_ ?_
          rotate_left
          ·show Act.put _ (some 73) _ = _
           simp only [Act.put, List.setIfInBounds_toArray, List.set_cons_zero, List.set_cons_succ, i64_w, i32_w]
           rfl
          refine one_ (i := 12) (N := some 74) (bA 15 8191) rfl rfl (one_of HT_.out (by kernel_rfl)) (by decide) (fun K hK => ?_)
          refine Kd.R_append_step Kd.bool (w0 := w) w.heap.size (by rfl) (.tmp 63) (.tmp 73) 22 4 (.bool false) 1 rfl Try.underlying22 info4 rfl (by decide) (by omega) u447002 x447002_1 false [.bool false] (fun _ => True) (fun _ => False) rfl rfl ?aP (fun _ hk => hk.elim) ?aF ?aO ?aB ?aS ?aL ?_
          (case aP => exact rfl)
          (case aB => exact (hb3 HB GE443 GE444 GE446))
          (case aF => exact (fun _ _ => trivial))
          (case aO => exact (rkx HO_447002))
          (case aS => exact (below_size (hb3 HB GE443 GE444 GE446)))
          (case aL => have := LMc122.out; omega)
          intro v477 w128 ho hb hg hat
          rw [← Ny476.out] at ho
          have n0_ := Aside0.mk (blk_grown (g := gb443) (o := .cells #[.int .i64 a0_0, .int .i64 a0_1, .slice (some ad472) l0_2.length c0_2] 24 (0, 0)) (bkx BK443) hg (Kd.R_ne HO_447002.out BK443.out (by decide)))
          have n1_ := Aside0.mk (blk_grown (g := gb444) (o := .cells #[.int .i64 0, .int .i64 0, .slice none 0 0] 24 (0, 0)) (bkx BK444) hg (Kd.R_ne HO_447002.out BK444.out (by decide)))
          have n2_ := Aside0.mk (blk_grown (g := gb446) (o := .cells #[.int .i64 a0_0, .int .i64 a0_1, u447002] 24 (0, 0)) (bkx BK446) hg (Kd.R_ne HO_447002.out BK446.out (by decide)))
          have n3_ := Aside0.mk (hb)
          have n4_ := Aside0.mk (ho)
          clear BK443
          clear BK444
          clear BK446
          clear HB
          clear HO_447002
          have BK443 := n0_
          have BK444 := n1_
          have BK446 := n2_
          have HB := n3_
          have HO478 := n4_
          clear n0_ n1_ n2_ n3_ n4_
          clear ho hb hg hat
          obtain ⟨Ao129, co129, eo129⟩ := Kd.R_slice HO478.out
          (first | subst eo129 | (injection eo129 with f1_ f2_ f3_; have f4_ := f1_.symm; have f5_ := f3_.symm; clear f1_ f2_ f3_; subst f4_; subst f5_))
          refine hK.out _ _ ⟨(blk_cell BK446.out 0).trans rfl, (blk_cell BK446.out 1).trans rfl, (blk_cell BK446.out 2).trans rfl, (blk_cell BK443.out 0).trans rfl, (blk_cell BK443.out 1).trans rfl, (blk_cell BK443.out 2).trans rfl, ((HB.out.cell (World.block_lt_of_cell? w _ hw472_0)).trans hw472_0)⟩ (fun hHeld => ?_)
          clear hK K
          refine norm_ (a' := ?_) ?_ ?_
          rotate_left
          ·show Act.put _ (some 74) _ = _
           simp only [Act.put, List.setIfInBounds_toArray, List.set_cons_zero, List.set_cons_succ, i64_w, i32_w]
           rfl
          refine pt HT_ 13 75 ?_
          refine last_ (i := 14) (N := none) (bA 15 32767) rfl rfl (one_of HT_.out (by kernel_rfl)) (by decide) (fun K hK => ?_)
          have hs130 : w128.cell? ⟨gb446, 2, none⟩ = some (u447002) := (blk_cell BK446.out 2).trans rfl
          have hfs130 := blk_frozen BK446.out 2
          have hns130_0 := NB443_446.out
          have hns130_1 := NB444_446.out
          have hms130_0 := NB446_443.out
          have hms130_1 := NB446_444.out
          refine skip_ (w1 := ?_) (by rfl) rfl ?_ ?_
          rotate_left
          ·go_simp
           rfl
          refine hK.out _ _ ?_
          clear hK K
          refine done_ (done_of HT_.out (by kernel_rfl)) ?_
          try go_wp2
          go_roundg k1
          case measure => have := HK1.out; omega
          case rel => exact ⟨(wrap64 (x6_1 + 1)), (y476), (.slice Ao129 y476.length co129), (by first | rfl | (simp; done) | (simp [*]; done)), H', ⟨by have := HK1.out; omega⟩, ⟨by refine rkt ?_; exact Kd.R_mono (Kd.R_far (p := ⟨gb446, 2, none⟩) (Kd.R_types HO478.out BK446.out (by decide)) (fun _ hk => hk.2) (.slice Ao129 y476.length co129)) (fun _ hk => trivial)⟩, ⟨bky BK443 NB443_446⟩, ⟨bky BK444 NB444_446⟩, ⟨by refine bkt ?_; refine blk_put (cs := #[.int .i64 a0_0, .int .i64 a0_1, u447002]) ?_ 2 _ rfl; refine bkt ?_; exact BK446.out⟩, ⟨hb3 HB GE443 GE444 GE446⟩⟩
         ·rw [if_neg c122] at H
          exact absurd H (by simp)
       ·rw [if_neg c110] at H
        exact absurd H (by simp)
    ·rw [if_neg c14] at H
     have c14b0 : decide (x6_1 < (l0_2.length : Int)) = false := decide_eq_false c14
     clear c14
     simp only [Option.some.injEq, Prod.mk.injEq] at H
     obtain ⟨rfl, rfl, rfl, rfl⟩ := H
     have hnb131 := NB443_444.out
     have hnc131 := NB444_443.out
     have hnb132 := NB443_446.out
     have hnc132 := NB446_443.out
     have hcz133_0 : wr.cell? ⟨gb443, 0, none⟩ = some (.int .i64 a0_0) := (blk_cell BK443.out 0).trans rfl
     have hcz133_1 : wr.cell? ⟨gb443, 1, none⟩ = some (.int .i64 a0_1) := (blk_cell BK443.out 1).trans rfl
     have hcz133_2 : wr.cell? ⟨gb443, 2, none⟩ = some (.slice A0_2 l0_2.length c0_2) := (blk_cell BK443.out 2).trans rfl
     have hfz133_0 := blk_frozen BK443.out 0
     have hfz133_1 := blk_frozen BK443.out 1
     have hfz133_2 := blk_frozen BK443.out 2
     have hnb134 := NB446_444.out
     have hnc134 := NB444_446.out
     have hcz135_0 : wr.cell? ⟨gb446, 0, none⟩ = some (.int .i64 a0_0) := (blk_cell BK446.out 0).trans rfl
     have hcz135_1 : wr.cell? ⟨gb446, 1, none⟩ = some (.int .i64 a0_1) := (blk_cell BK446.out 1).trans rfl
     have hcz135_2 : wr.cell? ⟨gb446, 2, none⟩ = some (u447002) := (blk_cell BK446.out 2).trans rfl
     have hfz135_0 := blk_frozen BK446.out 0
     have hfz135_1 := blk_frozen BK446.out 1
     have hfz135_2 := blk_frozen BK446.out 2
     have hcz136_0 : wr.cell? ⟨gb444, 0, none⟩ = some (.int .i64 0) := (blk_cell BK444.out 0).trans rfl
     have hcz136_1 : wr.cell? ⟨gb444, 1, none⟩ = some (.int .i64 0) := (blk_cell BK444.out 1).trans rfl
     have hcz136_2 : wr.cell? ⟨gb444, 2, none⟩ = some (.slice none 0 0) := (blk_cell BK444.out 2).trans rfl
     have hfz136_0 := blk_frozen BK444.out 0
     have hfz136_1 := blk_frozen BK444.out 1
     have hfz136_2 := blk_frozen BK444.out 2
     obtain ⟨Ao137, co137, eo137⟩ := Kd.R_slice HO_447002.out
     subst eo137
     go_wp2
     refine bodyPost_ret (results_ct rfl _ _ gb444 24 #[.int .i64 a0_0, .int .i64 a0_1, .slice Ao137 x447002_1.length co137] (0, 0) _ rfl (by refine bkt ?_; refine blk_put (cs := #[.int .i64 a0_0, .int .i64 a0_1, .slice none 0 0]) ?_ 2 _ rfl; refine bkt ?_; refine blk_put (cs := #[.int .i64 a0_0, .int .i64 0, .slice none 0 0]) ?_ 1 _ rfl; refine bkt ?_; refine blk_put (cs := #[.int .i64 0, .int .i64 0, .slice none 0 0]) ?_ 0 _ rfl; refine bkt ?_; exact BK444.out) Try.underlying24 rfl (by kernel_rfl)) rfl ?_
     exact ⟨_, by first | rfl | (simp [errW_none, errW_some] <;> rfl) | (simp [*, errW_none, errW_some] <;> rfl), by refine rkt ?_; exact Kd.R_mono (Kd.R_far (p := ⟨gb444, 2, none⟩) (Kd.R_far (p := ⟨gb444, 1, none⟩) (Kd.R_far (p := ⟨gb444, 0, none⟩) (Kd.R_types HO_447002.out BK444.out (by decide)) (fun _ hk => hk.2) (.int .i64 a0_0)) (fun _ hk => hk.2) (.int .i64 a0_1)) (fun _ hk => hk.2) (.slice Ao137 x447002_1.length co137)) (fun _ hk => trivial), by repeat (first | (with_reducible first | exact HB.out | apply below_alloc | apply pw_below_drewN | apply below_drew1 | refine below_set ?_ GE443.out | refine below_set ?_ GE444.out | refine below_set ?_ GE446.out) | exact HB.out)⟩
 ·rw [if_neg c3] at H
  have c3b0 : (t445 == 0) = false := beq_eq_false_iff_ne.mpr c3
  have c3b1 : (t445 != 0) = true := bne_iff_ne.mpr c3
  simp only [Option.some.injEq, Prod.mk.injEq] at H
  obtain ⟨rfl, rfl, rfl, rfl⟩ := H
  go_enter Try.func21, Try.ntmps21
  go_wp2_with (first | ((with_reducible refine gate_dst (N := 1) rfl ?_); refine box_event ?hg (N := 1) ?hd (cs := #[.int .i64 a0_0, .int .i64 a0_1, .slice A0_2 l0_2.length c0_2]) (t := 24) ?hr ?_; (case hd => rfl); (case hg => rfl); (case hr => first | (go_simp; done) | (go_simp; rfl)); intro gb443 hg w138 hbox hb; have n0_ := Aside0.mk (below_step (hb0 HB) hb); have n1_ := Aside0.mk (hbox); have n2_ := Aside0.mk ((by rw [hg]; exact (below_size (hb0 HB)) : w.heap.size ≤ gb443)); have n3_ := Aside0.mk ((by rw [hg]; exact (below_size (hb0 HB)) : w.heap.size ≤ gb443)); clear HB; have HB := n0_; have BK443 := n1_; have GW443 := n2_; have GE443 := n3_; clear n0_ n1_ n2_ n3_; clear hb hbox hg) | ((with_reducible refine gate_dst (N := 2) rfl ?_); refine box_event ?hg (N := 2) ?hd (cs := #[.int .i64 0, .int .i64 0, .slice none 0 0]) (t := 24) ?hr ?_; (case hd => rfl); (case hg => rfl); (case hr => first | (go_simp; done) | (go_simp; rfl)); intro gb444 hg w139 hbox hb; have n0_ := Aside0.mk (blk_below (bkx BK443) hb); have n1_ := Aside0.mk (below_step (hb1 HB GE443) hb); have n2_ := Aside0.mk (hbox); have n3_ := Aside0.mk ((by rw [hg]; exact (below_size (hb1 HB GE443)) : w.heap.size ≤ gb444)); have n4_ := Aside0.mk ((by rw [hg]; exact (below_size (hb1 HB GE443)) : w.heap.size ≤ gb444)); have n5_ := Aside0.mk (nel hg BK443 : gb443 ≠ gb444); have n6_ := Aside0.mk (neg hg BK443 : gb444 ≠ gb443); clear BK443; clear HB; have BK443 := n0_; have HB := n1_; have BK444 := n2_; have GW444 := n3_; have GE444 := n4_; have NB443_444 := n5_; have NB444_443 := n6_; clear n0_ n1_ n2_ n3_ n4_ n5_ n6_; clear hb hbox hg; have hnb140 := NB443_444.out; have hnc140 := NB444_443.out; have hcz141_0 : w139.cell? ⟨gb443, 0, none⟩ = some (.int .i64 a0_0) := (blk_cell BK443.out 0).trans rfl; have hcz141_1 : w139.cell? ⟨gb443, 1, none⟩ = some (.int .i64 a0_1) := (blk_cell BK443.out 1).trans rfl; have hcz141_2 : w139.cell? ⟨gb443, 2, none⟩ = some (.slice A0_2 l0_2.length c0_2) := (blk_cell BK443.out 2).trans rfl; have hfz141_0 := blk_frozen BK443.out 0; have hfz141_1 := blk_frozen BK443.out 1; have hfz141_2 := blk_frozen BK443.out 2) | ((with_reducible refine gate_callee (f := 33) rfl ?_); refine goesL_ (some 11) rfl rfl Try.func33 (by kernel_rfl) rfl #[.agg #[.int .i64 a0_0, .int .i64 a0_1, .slice A0_2 l0_2.length c0_2], .int .i64 0, .int .i64 0] rfl mapx ?_; (with_reducible refine (barscanref37_check.calls a0_0 a0_1 _ _ l0_2 0 0 t445 _ ?side1 ?side2 A2.out).mono ?_); (case side1 => repeat (first | exact (Kd.C_below HR0_2.out HB.out) | (with_reducible refine Kd.C_alloc ?_ _) | (with_reducible refine Kd.C_drewN ?_ _) | (with_reducible refine Kd.C_drew ?_))); (case side2 => exact HC0_2.out); rintro e w142 ⟨rfl, hb⟩; refine ⟨_, rfl, ?_⟩; have n0_ := Aside0.mk (blk_below (bkx BK443) hb); have n1_ := Aside0.mk (blk_below (bkx BK444) hb); have n2_ := Aside0.mk (below_step (hb2 HB GE443 GE444) hb); clear BK443; clear BK444; clear HB; have BK443 := n0_; have BK444 := n1_; have HB := n2_; clear n0_ n1_ n2_; (try clear hb); (try clear hb2); (try clear hk); (try clear hi); have hcz143_0 : w142.cell? ⟨gb444, 0, none⟩ = some (.int .i64 0) := (blk_cell BK444.out 0).trans rfl; have hcz143_1 : w142.cell? ⟨gb444, 1, none⟩ = some (.int .i64 0) := (blk_cell BK444.out 1).trans rfl; have hcz143_2 : w142.cell? ⟨gb444, 2, none⟩ = some (.slice none 0 0) := (blk_cell BK444.out 2).trans rfl; have hfz143_0 := blk_frozen BK444.out 0; have hfz143_1 := blk_frozen BK444.out 1; have hfz143_2 := blk_frozen BK444.out 2))
  refine bodyPost_ret (results_ct rfl _ _ gb444 24 #[.int .i64 0, .int .i64 0, .slice none 0 0] (0, 0) _ rfl (by refine bkt ?_; refine blk_put (cs := #[.int .i64 0, .int .i64 0, .slice none 0 0]) ?_ 2 _ rfl; refine bkt ?_; refine blk_put (cs := #[.int .i64 0, .int .i64 0, .slice none 0 0]) ?_ 1 _ rfl; refine bkt ?_; refine blk_put (cs := #[.int .i64 0, .int .i64 0, .slice none 0 0]) ?_ 0 _ rfl; refine bkt ?_; exact BK444.out) Try.underlying24 rfl (by kernel_rfl)) rfl ?_
  exact ⟨_, by first | rfl | (simp [errW_none, errW_some] <;> rfl) | (simp [*, errW_none, errW_some] <;> rfl), by first | exact Kd.R_nil _ _ _ _ _ | exact Kd.N_nil _ _ _ _ _ | exact Kd.V_nil _ _ _ _ _ | exact Kd.Q_nil _ _ _ _ _ | exact Kd.S_nil _ _ _ _ _, by repeat (first | (with_reducible first | exact HB.out | apply below_alloc | apply pw_below_drewN | apply below_drew1 | refine below_set ?_ GE443.out | refine below_set ?_ GE444.out) | exact HB.out)⟩

end Go.Proofs.Ytkakiblnhgpdnaa.PR
