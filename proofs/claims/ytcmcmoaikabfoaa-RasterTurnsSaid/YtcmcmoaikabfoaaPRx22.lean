-- Written by this session's own program (myprint.py).
import Derived.Test.YtcmcmoaikabfoaaPRx0
import Derived.Test.YtcmcmoaikabfoaaPRx2
import Derived.Test.YtcmcmoaikabfoaaPRx3
namespace Go.Proofs.Ytcmcmoaikabfoaa.PR
open Go.RowKit Go.Proofs.YtcmcmoaikabfoaaW.PrintWords Go.Proofs.YtcmcmoaikabfoaaW.PrintLast Go.Proofs.YtcmcmoaikabfoaaW.PrintMore Go.Proofs.Ytcmcmoaikabfoaa.XWords Go.Proofs.Ytcmcmoaikabfoaa.XShort
attribute [local go_sem] max2_int min2_int max_two min_two max_three min_three max_four min_four   -- for this text's walks alone
set_option linter.unusedVariables false
set_option linter.unusedSimpArgs false

/-! ### barscanref31_Mirror: function 42 -/
def barscanref31_Mirror.l0 : Nat → Int → Int → Int → List Bool → Int → Int → List Bool → Option (Int × Int × List Bool × Int)
 | 0, _, _, _, _, _, _, _ => none
 | k + 1, x5, x708000, x708001, x708002, x711000, x711001, x711002 => if x5 < (x708002.length : Int) then (if x708000 = 0 then (none) else ((barscanref31_At.f x708000 x708001 x708002 (wrap64 ((wrap64 (x708000 - 1)) - (Int.tmod x5 x708000))) (wrap64 (Int.tdiv x5 x708000))).bind fun t711 => (if x711002.length < 140737488355328 then (barscanref31_Mirror.l0 k (wrap64 (x5 + 1)) x708000 x708001 x708002 x711000 x711001 (x711002 ++ [t711])) else (none)))) else (some (x711000, x711001, x711002, 0))
def barscanref31_Mirror.f (k : Nat) (a0_0 : Int) (a0_1 : Int) (l0_2 : List Bool) : Option (Int × Int × List Bool × Int) := (barscanref31_Valid.f a0_0 a0_1 l0_2).bind fun t709 => (if t709 = true then (barscanref31_Mirror.l0 k 0 a0_0 a0_1 l0_2 a0_0 a0_1 ([] : List Bool)) else (some (0, 0, ([] : List Bool), 1)))
theorem barscanref31_Mirror.mono_l : ∀ k, (∀ y0 y1 y2 y3 y4 y5 y6, LeO (barscanref31_Mirror.l0 k y0 y1 y2 y3 y4 y5 y6) (barscanref31_Mirror.l0 (k + 1) y0 y1 y2 y3 y4 y5 y6))
 | 0 => fun _ _ _ _ _ _ _ r h => by simp [barscanref31_Mirror.l0] at h
 | k + 1 => by
  have ih0 := barscanref31_Mirror.mono_l k
  ·intro y0 y1 y2 y3 y4 y5 y6
   unfold barscanref31_Mirror.l0
   repeat' first
   | (with_reducible exact ih0 _ _ _ _ _ _ _)
   | (with_reducible exact LeO.refl _)
   | (with_reducible exact LeO.none _)
   | (with_reducible refine LeO.ite ?_ ?_)
   | (with_reducible refine LeO.bind ?_ (fun _ => ?_))
   | exact ih0 _ _ _ _ _ _ _
   | exact LeO.none _
   | refine LeO.ite ?_ ?_
   | refine LeO.bind ?_ (fun _ => ?_)
theorem barscanref31_Mirror.mono : ∀ a0 a1 a2 k, LeO (barscanref31_Mirror.f k a0 a1 a2) (barscanref31_Mirror.f (k + 1) a0 a1 a2) := by
 intro a0 a1 a2 k
 have ih0 := barscanref31_Mirror.mono_l k
 unfold barscanref31_Mirror.f
 repeat' first
   | (with_reducible exact ih0 _ _ _ _ _ _ _)
   | (with_reducible exact LeO.refl _)
   | (with_reducible exact LeO.none _)
   | (with_reducible refine LeO.ite ?_ ?_)
   | (with_reducible refine LeO.bind ?_ (fun _ => ?_))
   | exact ih0 _ _ _ _ _ _ _
   | exact LeO.none _
   | refine LeO.ite ?_ ?_
   | refine LeO.bind ?_ (fun _ => ?_)
def barscanref31_Mirror.T7 : Bool × List (List Nat × List Nat) := (true, [([], []), ([0], [0]), ([], []), ([], []), ([3], [3]), ([4], [4]), ([], []), ([], []), ([7], [7]), ([6, 8], [6, 8]), ([5, 9], [5, 9]), ([], []), ([], []), ([12], [12]), ([11, 13], [11, 13]), ([2, 10, 14], [2, 10, 14]), ([15], [15]), ([1, 16, 15], [1, 16]), ([0, 1, 2, 3, 4, 5, 6, 7, 8, 9, 10, 11, 12, 13, 14, 15, 16, 17], []), ([18, 17, 17, 0, 1, 2, 3, 4, 5, 6, 7, 8, 9, 10, 11, 12, 13, 14, 15, 16, 17], [17, 18])])
def barscanref31_Mirror.B7 : List Nat := [0, 1, 0, 0, 8, 24, 0, 0, 128, 448, 1016, 0, 0, 4096, 14336, 32764, 65532, 131071, 262143, 524287]
theorem barscanref31_Mirror.tab7 : rtab .any (opsOf Try.f42 7) = barscanref31_Mirror.T7 := by kernel_rfl
theorem barscanref31_Mirror.bits7 : waitsOk barscanref31_Mirror.T7.2 barscanref31_Mirror.B7 = true := by kernel_rfl
set_option maxHeartbeats 8000000 in
set_option maxRecDepth 100000 in
theorem barscanref31_Mirror.calls (k : Nat) (a0_0 : Int) (a0_1 : Int) (A0_2 : Option Addr) (c0_2 : Nat) (l0_2 : List Bool) (r1 : Int) (r2 : Int) (r3 : List Bool) (r4 : Int) (w : World) (hr0_2 : Kd.C Kd.bool w A0_2 l0_2.length l0_2) (hc0_2 : l0_2.length ≤ c0_2) (h : barscanref31_Mirror.f k a0_0 a0_1 l0_2 = some (r1, r2, r3, r4)) :
  Calls Try.prog 42 #[.agg #[.int .i64 a0_0, .int .i64 a0_1, .slice A0_2 l0_2.length c0_2]] w fun e w' => ∃ v2_ : Value, e = .returned (.tuple #[.agg #[.int .i64 r1, .int .i64 r2, v2_], .int .i64 r4]) ∧ Kd.R Kd.bool 4 w' w.heap.size (fun _ => True) v2_ r3 ∧ Below w.heap.size w w' := by
 have hu24 := Try.underlying24
 have HR0_2 := Aside0.mk hr0_2
 have HC0_2 := Aside0.mk hc0_2
 clear hr0_2 hc0_2
 have HB := Aside0.mk (Below.refl w.heap.size w)
 have H : ((barscanref31_Valid.f a0_0 a0_1 l0_2).bind fun t709 => (if t709 = true then (barscanref31_Mirror.l0 k 0 a0_0 a0_1 l0_2 a0_0 a0_1 ([] : List Bool)) else (some (0, 0, ([] : List Bool), 1)))) = some (r1, r2, r3, r4) := h
 clear h
 replace H := Option.bind_eq_some_iff.mp H
 obtain ⟨t709, A20, H⟩ := H
 replace H : (if t709 = true then (barscanref31_Mirror.l0 k 0 a0_0 a0_1 l0_2 a0_0 a0_1 ([] : List Bool)) else (some (0, 0, ([] : List Bool), 1))) = some (r1, r2, r3, r4) := H
 have A2 := Aside0.mk A20
 clear A20
 by_cases c3 : t709 = true
 ·subst c3
  have H1 : (barscanref31_Mirror.l0 k 0 a0_0 a0_1 l0_2 a0_0 a0_1 ([] : List Bool)) = some (r1, r2, r3, r4) := by rw [if_pos rfl] at H; exact H
  clear H
  have H := H1
  clear H1
  have H' := Aside0.mk H
  clear H
  go_enter Try.func42, Try.ntmps42
  go_wp2_with (first | ((with_reducible refine gate_dst (N := 1) rfl ?_); refine box_event ?hg (N := 1) ?hd (cs := #[.int .i64 a0_0, .int .i64 a0_1, .slice A0_2 l0_2.length c0_2]) (t := 24) ?hr ?_; (case hd => rfl); (case hg => rfl); (case hr => first | (go_simp; done) | (go_simp; rfl)); intro gb707 hg w4 hbox hb; have n0_ := Aside0.mk (below_step (hb0 HB) hb); have n1_ := Aside0.mk (hbox); have n2_ := Aside0.mk ((by rw [hg]; exact (below_size (hb0 HB)) : w.heap.size ≤ gb707)); have n3_ := Aside0.mk ((by rw [hg]; exact (below_size (hb0 HB)) : w.heap.size ≤ gb707)); clear HB; have HB := n0_; have BK707 := n1_; have GW707 := n2_; have GE707 := n3_; clear n0_ n1_ n2_ n3_; clear hb hbox hg) | ((with_reducible refine gate_dst (N := 2) rfl ?_); refine box_event ?hg (N := 2) ?hd (cs := #[.int .i64 0, .int .i64 0, .slice none 0 0]) (t := 24) ?hr ?_; (case hd => rfl); (case hg => rfl); (case hr => first | (go_simp; done) | (go_simp; rfl)); intro gb708 hg w5 hbox hb; have n0_ := Aside0.mk (blk_below (bkx BK707) hb); have n1_ := Aside0.mk (below_step (hb1 HB GE707) hb); have n2_ := Aside0.mk (hbox); have n3_ := Aside0.mk ((by rw [hg]; exact (below_size (hb1 HB GE707)) : w.heap.size ≤ gb708)); have n4_ := Aside0.mk ((by rw [hg]; exact (below_size (hb1 HB GE707)) : w.heap.size ≤ gb708)); have n5_ := Aside0.mk (nel hg BK707 : gb707 ≠ gb708); have n6_ := Aside0.mk (neg hg BK707 : gb708 ≠ gb707); clear BK707; clear HB; have BK707 := n0_; have HB := n1_; have BK708 := n2_; have GW708 := n3_; have GE708 := n4_; have NB707_708 := n5_; have NB708_707 := n6_; clear n0_ n1_ n2_ n3_ n4_ n5_ n6_; clear hb hbox hg; have hnb6 := NB707_708.out; have hnc6 := NB708_707.out; have hcz7_0 : w5.cell? ⟨gb707, 0, none⟩ = some (.int .i64 a0_0) := (blk_cell BK707.out 0).trans rfl; have hcz7_1 : w5.cell? ⟨gb707, 1, none⟩ = some (.int .i64 a0_1) := (blk_cell BK707.out 1).trans rfl; have hcz7_2 : w5.cell? ⟨gb707, 2, none⟩ = some (.slice A0_2 l0_2.length c0_2) := (blk_cell BK707.out 2).trans rfl; have hfz7_0 := blk_frozen BK707.out 0; have hfz7_1 := blk_frozen BK707.out 1; have hfz7_2 := blk_frozen BK707.out 2) | ((with_reducible refine gate_callee (f := 26) rfl ?_); refine goesL_ (some 7) rfl rfl Try.func26 (by kernel_rfl) rfl #[.agg #[.int .i64 a0_0, .int .i64 a0_1, .slice A0_2 l0_2.length c0_2]] rfl mapx ?_; (with_reducible refine (barscanref31_Valid.calls a0_0 a0_1 _ _ l0_2 true _ ?side1 ?side2 A2.out).mono ?_); (case side1 => repeat (first | exact (Kd.C_below HR0_2.out HB.out) | (with_reducible refine Kd.C_alloc ?_ _) | (with_reducible refine Kd.C_drewN ?_ _) | (with_reducible refine Kd.C_drew ?_))); (case side2 => exact HC0_2.out); rintro e w8 ⟨rfl, hb⟩; refine ⟨_, rfl, ?_⟩; have n0_ := Aside0.mk (blk_below (bkx BK707) hb); have n1_ := Aside0.mk (blk_below (bkx BK708) hb); have n2_ := Aside0.mk (below_step (hb2 HB GE707 GE708) hb); clear BK707; clear BK708; clear HB; have BK707 := n0_; have BK708 := n1_; have HB := n2_; clear n0_ n1_ n2_; (try clear hb); (try clear hb2); (try clear hk); (try clear hi); have hcz9_0 : w8.cell? ⟨gb707, 0, none⟩ = some (.int .i64 a0_0) := (blk_cell BK707.out 0).trans rfl; have hcz9_1 : w8.cell? ⟨gb707, 1, none⟩ = some (.int .i64 a0_1) := (blk_cell BK707.out 1).trans rfl; have hcz9_2 : w8.cell? ⟨gb707, 2, none⟩ = some (.slice A0_2 l0_2.length c0_2) := (blk_cell BK707.out 2).trans rfl; have hfz9_0 := blk_frozen BK707.out 0; have hfz9_1 := blk_frozen BK707.out 1; have hfz9_2 := blk_frozen BK707.out 2) | ((with_reducible refine gate_dst (N := 4) rfl ?_); refine box_event ?hg (N := 4) ?hd (cs := #[.int .i64 0, .int .i64 0, .slice none 0 0]) (t := 24) ?hr ?_; (case hd => rfl); (case hg => rfl); (case hr => first | (go_simp; done) | (go_simp; rfl)); intro gb710 hg w10 hbox hb; have n0_ := Aside0.mk (blk_below (bkx BK707) hb); have n1_ := Aside0.mk (blk_below (bkx BK708) hb); have n2_ := Aside0.mk (below_step (hb2 HB GE707 GE708) hb); have n3_ := Aside0.mk (hbox); have n4_ := Aside0.mk ((by rw [hg]; exact (below_size (hb2 HB GE707 GE708)) : w.heap.size ≤ gb710)); have n5_ := Aside0.mk ((by rw [hg]; exact (below_size (hb2 HB GE707 GE708)) : w.heap.size ≤ gb710)); have n6_ := Aside0.mk (nel hg BK707 : gb707 ≠ gb710); have n7_ := Aside0.mk (neg hg BK707 : gb710 ≠ gb707); have n8_ := Aside0.mk (nel hg BK708 : gb708 ≠ gb710); have n9_ := Aside0.mk (neg hg BK708 : gb710 ≠ gb708); clear BK707; clear BK708; clear HB; have BK707 := n0_; have BK708 := n1_; have HB := n2_; have BK710 := n3_; have GW710 := n4_; have GE710 := n5_; have NB707_710 := n6_; have NB710_707 := n7_; have NB708_710 := n8_; have NB710_708 := n9_; clear n0_ n1_ n2_ n3_ n4_ n5_ n6_ n7_ n8_ n9_; clear hb hbox hg; have hnb11 := NB710_707.out; have hnc11 := NB707_710.out; have hnb12 := NB710_708.out; have hnc12 := NB708_710.out; have hcz13_0 : w10.cell? ⟨gb710, 0, none⟩ = some (.int .i64 0) := (blk_cell BK710.out 0).trans rfl; have hcz13_1 : w10.cell? ⟨gb710, 1, none⟩ = some (.int .i64 0) := (blk_cell BK710.out 1).trans rfl; have hcz13_2 : w10.cell? ⟨gb710, 2, none⟩ = some (.slice none 0 0) := (blk_cell BK710.out 2).trans rfl; have hfz13_0 := blk_frozen BK710.out 0; have hfz13_1 := blk_frozen BK710.out 1; have hfz13_2 := blk_frozen BK710.out 2))
  go_loopg [5] k (fun kq v5 w' => ∃ (x5_1 : Int) (x711002_1 : List Bool) (u711002 : Value), v5 = .int .i64 x5_1 ∧ Aside0 (barscanref31_Mirror.l0 kq x5_1 a0_0 a0_1 l0_2 a0_0 a0_1 x711002_1 = some (r1, r2, r3, r4)) ∧ Aside0 (kq ≤ k) ∧ Aside0 (Kd.R Kd.bool 4 w' w.heap.size (fun _ => True) u711002 x711002_1) ∧ Aside0 (w'.heap[gb707]? = some (.cells #[.int .i64 a0_0, .int .i64 a0_1, (.slice A0_2 l0_2.length c0_2)] 24 (0, 0))) ∧ Aside0 (w'.heap[gb708]? = some (.cells #[.int .i64 0, .int .i64 0, (.slice none 0 0)] 24 (0, 0))) ∧ Aside0 (w'.heap[gb710]? = some (.cells #[.int .i64 a0_0, .int .i64 a0_1, u711002] 24 (0, 0))) ∧ Aside0 (Below w.heap.size w w'))
  case atStart => exact ⟨(0), (([] : List Bool)), (.slice none 0 0), (by first | rfl | (simp; done) | (simp [*]; done)), H', ⟨Nat.le_refl _⟩, ⟨by first | exact Kd.R_nil _ _ _ _ _ | exact Kd.N_nil _ _ _ _ _ | exact Kd.V_nil _ _ _ _ _ | exact Kd.Q_nil _ _ _ _ _ | exact Kd.S_nil _ _ _ _ _⟩, ⟨bky BK707 NB707_710⟩, ⟨bky BK708 NB708_710⟩, ⟨by refine bkt ?_; refine blk_put (cs := #[.int .i64 a0_0, .int .i64 a0_1, .slice none 0 0]) ?_ 2 _ rfl; refine bkt ?_; refine blk_put (cs := #[.int .i64 a0_0, .int .i64 0, .slice none 0 0]) ?_ 1 _ rfl; refine bkt ?_; refine blk_put (cs := #[.int .i64 0, .int .i64 0, .slice none 0 0]) ?_ 0 _ rfl; refine bkt ?_; exact BK710.out⟩, ⟨hb3 HB GE707 GE708 GE710⟩⟩
  case round =>
   clear H'
   try clear c1
   try clear c2
   try clear p2
   try clear c3
   try clear c4
   try clear c6
   try clear c11
   try clear c12
   try clear hcz13_0
   try clear hcz13_1
   try clear hcz13_2
   try clear hcz7_0
   try clear hcz7_1
   try clear hcz7_2
   try clear hcz9_0
   try clear hcz9_1
   try clear hcz9_2
   try clear hfz13_0
   try clear hfz13_1
   try clear hfz13_2
   try clear hfz7_0
   try clear hfz7_1
   try clear hfz7_2
   try clear hfz9_0
   try clear hfz9_1
   try clear hfz9_2
   obtain ⟨x5_1, x711002_1, u711002, rfl, HA, HK1, HO_711002, BK707, BK708, BK710, HB⟩ := hrel
   cases gk with
   | zero => exact absurd HA.out (by simp [barscanref31_Mirror.l0])
   | succ k1 =>
    have H := HA.out
    clear HA
    simp only [barscanref31_Mirror.l0] at H
    by_cases c14 : x5_1 < (l0_2.length : Int)
    ·rw [if_pos c14] at H
     have c14b0 : decide (x5_1 < (l0_2.length : Int)) = true := decide_eq_true c14
     clear c14
     by_cases c15 : a0_0 = 0
     ·rw [if_pos c15] at H
      exact absurd H (by simp)
     ·rw [if_neg c15] at H
      have c15b0 : (a0_0 == 0) = false := beq_eq_false_iff_ne.mpr c15
      have c15b1 : (a0_0 != 0) = true := bne_iff_ne.mpr c15
      replace H := Option.bind_eq_some_iff.mp H
      obtain ⟨t711, A160, H⟩ := H
      replace H : (if x711002_1.length < 140737488355328 then (barscanref31_Mirror.l0 k1 (wrap64 (x5_1 + 1)) a0_0 a0_1 l0_2 a0_0 a0_1 (x711002_1 ++ [t711])) else (none)) = some (r1, r2, r3, r4) := H
      have A16 := Aside0.mk A160
      clear A160
      by_cases c17 : x711002_1.length < 140737488355328
      ·rw [if_pos c17] at H
       have LMc17 := Aside0.mk c17
       clear c17
       obtain ⟨y712, hy712⟩ : ∃ y_ : List Bool, y_ = (x711002_1 ++ [t711]) := ⟨_, rfl⟩
       replace H : (barscanref31_Mirror.l0 k1 (wrap64 (x5_1 + 1)) a0_0 a0_1 l0_2 a0_0 a0_1 y712) = some (r1, r2, r3, r4) := by first | (rw [hy712]; with_reducible exact H) | (have H2_ := (Option.bind_some _ _).symm.trans H; rw [hy712]; with_reducible exact H2_) | (have H2_ := (Option.bind_some _ _).symm.trans H; with_reducible exact H2_) | with_reducible exact H | (rw [hy712]; exact H) | exact H
       have Ny712 := Aside0.mk hy712
       clear hy712
       have H' := Aside0.mk H
       clear H
       have hnb18 := NB707_708.out
       have hnc18 := NB708_707.out
       have hnb19 := NB707_710.out
       have hnc19 := NB710_707.out
       have hcz20_0 : wr.cell? ⟨gb707, 0, none⟩ = some (.int .i64 a0_0) := (blk_cell BK707.out 0).trans rfl
       have hcz20_1 : wr.cell? ⟨gb707, 1, none⟩ = some (.int .i64 a0_1) := (blk_cell BK707.out 1).trans rfl
       have hcz20_2 : wr.cell? ⟨gb707, 2, none⟩ = some (.slice A0_2 l0_2.length c0_2) := (blk_cell BK707.out 2).trans rfl
       have hfz20_0 := blk_frozen BK707.out 0
       have hfz20_1 := blk_frozen BK707.out 1
       have hfz20_2 := blk_frozen BK707.out 2
       try go_wp2
       have n0_ := Aside0.mk (Kd.R_drew HO_711002.out)
       have n1_ := Aside0.mk (blk_drew BK707.out)
       have n2_ := Aside0.mk (blk_drew BK708.out)
       have n3_ := Aside0.mk (blk_drew BK710.out)
       have n4_ := Aside0.mk (below_drew1 HB.out)
       clear HO_711002
       clear BK707
       clear BK708
       clear BK710
       clear HB
       have HO_711002 := n0_
       have BK707 := n1_
       have BK708 := n2_
       have BK710 := n3_
       have HB := n4_
       clear n0_ n1_ n2_ n3_ n4_
       refine start_ (n := 20) (S := fun w' => w'.cell? ⟨gb710, 0, none⟩ = some (.int .i64 a0_0) ∧ w'.cell? ⟨gb710, 1, none⟩ = some (.int .i64 a0_1) ∧ w'.cell? ⟨gb710, 2, none⟩ = some (u711002) ∧ w'.cell? ⟨gb707, 0, none⟩ = some (.int .i64 a0_0) ∧ w'.cell? ⟨gb707, 1, none⟩ = some (.int .i64 a0_1) ∧ w'.cell? ⟨gb707, 2, none⟩ = some (.slice A0_2 l0_2.length c0_2)) (ds := [19]) #[false, false, false, false, false, false, false, false, false, false, false, false, false, false, false, false, false, false, false, false] (by kernel_rfl) rfl rfl ⟨(blk_cell BK710.out 0).trans rfl, (blk_cell BK710.out 1).trans rfl, (blk_cell BK710.out 2).trans rfl, (blk_cell BK707.out 0).trans rfl, (blk_cell BK707.out 1).trans rfl, (blk_cell BK707.out 2).trans rfl⟩ (fun hHeld => ?_); refine with_tabW barscanref31_Mirror.tab7 barscanref31_Mirror.bits7 (fun HT_ HW_ => ?_)
       generalize wr.drew = w21 at HO_711002 BK707 BK708 BK710 HB hHeld ⊢
       refine pure_ (i := 0) (N := some 22) (v := ?_) (a' := ?_) #[true, false, false, false, false, false, false, false, false, false, false, false, false, false, false, false, false, false, false, false] rfl rfl (any_of HT_.out (by kernel_rfl)) (fun _ _ _ h => h) (Or.inl ⟨by rfl, ?_⟩) ?_ ?_
       rotate_left
       ·intro w'
        go_simp
        with_reducible rfl
       rotate_left
       ·simp only [Act.put, List.setIfInBounds_toArray, List.set_cons_zero, List.set_cons_succ, i64_w, i32_w]
        rfl
       refine pure_ (i := 3) (N := some 25) (v := ?_) (a' := ?_) #[true, false, false, true, false, false, false, false, false, false, false, false, false, false, false, false, false, false, false, false] rfl rfl (any_of HT_.out (by kernel_rfl)) (fun _ _ _ h => h) (Or.inl ⟨by rfl, ?_⟩) ?_ ?_
       rotate_left
       ·intro w'
        go_simp
        with_reducible rfl
       rotate_left
       ·simp only [Act.put, List.setIfInBounds_toArray, List.set_cons_zero, List.set_cons_succ, i64_w, i32_w]
        rfl
       refine pure_ (i := 6) (N := some 28) (v := ?_) (a' := ?_) #[true, false, false, true, false, false, true, false, false, false, false, false, false, false, false, false, false, false, false, false] rfl rfl (any_of HT_.out (by kernel_rfl)) (fun _ _ _ h => h) (Or.inl ⟨by rfl, ?_⟩) ?_ ?_
       rotate_left
       ·intro w'
        go_simp
        with_reducible rfl
       rotate_left
       ·simp only [Act.put, List.setIfInBounds_toArray, List.set_cons_zero, List.set_cons_succ, i64_w, i32_w]
        rfl
       refine pure_ (i := 7) (N := some 29) (v := ?_) (a' := ?_) #[true, false, false, true, false, false, true, true, false, false, false, false, false, false, false, false, false, false, false, false] rfl rfl (any_of HT_.out (by kernel_rfl)) (fun _ _ _ h => h) (Or.inl ⟨by rfl, ?_⟩) ?_ ?_
       rotate_left
       ·intro w'
        go_simp
        with_reducible rfl
       rotate_left
       ·simp only [Act.put, List.setIfInBounds_toArray, List.set_cons_zero, List.set_cons_succ, i64_w, i32_w]
        rfl
       refine pure_ (i := 11) (N := some 33) (v := ?_) (a' := ?_) #[true, false, false, true, false, false, true, true, false, false, false, true, false, false, false, false, false, false, false, false] rfl rfl (any_of HT_.out (by kernel_rfl)) (fun _ _ _ h => h) (Or.inl ⟨by rfl, ?_⟩) ?_ ?_
       rotate_left
       ·intro w'
        go_simp
        with_reducible rfl
       rotate_left
       ·simp only [Act.put, List.setIfInBounds_toArray, List.set_cons_zero, List.set_cons_succ, i64_w, i32_w]
        rfl
       refine pure_ (i := 12) (N := some 34) (v := ?_) (a' := ?_) #[true, false, false, true, false, false, true, true, false, false, false, true, true, false, false, false, false, false, false, false] rfl rfl (any_of HT_.out (by kernel_rfl)) (fun _ _ _ h => h) (Or.inl ⟨by rfl, ?_⟩) ?_ ?_
       rotate_left
       ·intro w'
        go_simp
        with_reducible rfl
       rotate_left
       ·simp only [Act.put, List.setIfInBounds_toArray, List.set_cons_zero, List.set_cons_succ, i64_w, i32_w]
        rfl
       refine take_ (i := 1) (N := some 23) (v := ?_) (a' := ?_) #[true, true, false, true, false, false, true, true, false, false, false, true, true, false, false, false, false, false, false, false] rfl rfl (take_ofW HT_.out HW_.out (by kernel_rfl)) (fun _ _ _ h => h) (Or.inl ⟨by rfl, ?_⟩) hHeld ?_ ?_
       rotate_left
       ·rintro w' ⟨s0, s1, s2, s3, s4, s5⟩
        go_simp
        with_reducible rfl
       rotate_left
       ·simp only [Act.put, List.setIfInBounds_toArray, List.set_cons_zero, List.set_cons_succ, i64_w, i32_w]
        rfl
       refine take_ (i := 2) (N := some 24) (v := ?_) (a' := ?_) #[true, true, true, true, false, false, true, true, false, false, false, true, true, false, false, false, false, false, false, false] rfl rfl (take_ofW HT_.out HW_.out (by kernel_rfl)) (fun _ _ _ h => h) (Or.inl ⟨by rfl, ?_⟩) hHeld ?_ ?_
       rotate_left
       ·rintro w' ⟨s0, s1, s2, s3, s4, s5⟩
        go_simp
        with_reducible rfl
       rotate_left
       ·simp only [Act.put, List.setIfInBounds_toArray, List.set_cons_zero, List.set_cons_succ, i64_w, i32_w]
        rfl
       refine take_ (i := 4) (N := some 26) (v := ?_) (a' := ?_) #[true, true, true, true, true, false, true, true, false, false, false, true, true, false, false, false, false, false, false, false] rfl rfl (take_ofW HT_.out HW_.out (by kernel_rfl)) (fun _ _ _ h => h) (Or.inl ⟨by rfl, ?_⟩) hHeld ?_ ?_
       rotate_left
       ·rintro w' ⟨s0, s1, s2, s3, s4, s5⟩
        go_simp
        with_reducible rfl
       rotate_left
       ·simp only [Act.put, List.setIfInBounds_toArray, List.set_cons_zero, List.set_cons_succ, i64_w, i32_w]
        rfl
       refine pure_ (i := 5) (N := some 27) (v := ?_) (a' := ?_) #[true, true, true, true, true, true, true, true, false, false, false, true, true, false, false, false, false, false, false, false] rfl rfl (any_of HT_.out (by kernel_rfl)) (fun _ _ _ h => h) (Or.inl ⟨by rfl, ?_⟩) ?_ ?_
       rotate_left
       ·intro w'
        go_simp
        with_reducible rfl
       rotate_left
       ·simp only [Act.put, List.setIfInBounds_toArray, List.set_cons_zero, List.set_cons_succ, i64_w, i32_w]
        rfl
       refine take_ (i := 8) (N := some 30) (v := ?_) (a' := ?_) #[true, true, true, true, true, true, true, true, true, false, false, true, true, false, false, false, false, false, false, false] rfl rfl (take_ofW HT_.out HW_.out (by kernel_rfl)) (fun _ _ _ h => h) (Or.inl ⟨by rfl, ?_⟩) hHeld ?_ ?_
       rotate_left
       ·rintro w' ⟨s0, s1, s2, s3, s4, s5⟩
        go_simp
        with_reducible rfl
       rotate_left
       ·simp only [Act.put, List.setIfInBounds_toArray, List.set_cons_zero, List.set_cons_succ, i64_w, i32_w]
        rfl
       refine pure_ (i := 9) (N := some 31) (v := ?_) (a' := ?_) #[true, true, true, true, true, true, true, true, true, true, false, true, true, false, false, false, false, false, false, false] rfl rfl (any_of HT_.out (by kernel_rfl)) (fun _ _ _ h => h) (Or.inl ⟨by rfl, ?_⟩) ?_ ?_
       rotate_left
       ·intro w'
        go_simp
        with_reducible rfl
       rotate_left
       ·simp only [Act.put, List.setIfInBounds_toArray, List.set_cons_zero, List.set_cons_succ, i64_w, i32_w]
        rfl
       refine pure_ (i := 10) (N := some 32) (v := ?_) (a' := ?_) #[true, true, true, true, true, true, true, true, true, true, true, true, true, false, false, false, false, false, false, false] rfl rfl (any_of HT_.out (by kernel_rfl)) (fun _ _ _ h => h) (Or.inl ⟨by rfl, ?_⟩) ?_ ?_
       rotate_left
       ·intro w'
        go_simp
        with_reducible rfl
       rotate_left
       ·simp only [Act.put, List.setIfInBounds_toArray, List.set_cons_zero, List.set_cons_succ, i64_w, i32_w]
        rfl
       refine take_ (i := 13) (N := some 35) (v := ?_) (a' := ?_) #[true, true, true, true, true, true, true, true, true, true, true, true, true, true, false, false, false, false, false, false] rfl rfl (take_ofW HT_.out HW_.out (by kernel_rfl)) (fun _ _ _ h => h) (Or.inl ⟨by rfl, ?_⟩) hHeld ?_ ?_
       rotate_left
       ·rintro w' ⟨s0, s1, s2, s3, s4, s5⟩
        go_simp
        with_reducible rfl
       rotate_left
       ·simp only [Act.put, List.setIfInBounds_toArray, List.set_cons_zero, List.set_cons_succ, i64_w, i32_w]
        rfl
       refine pure_ (i := 14) (N := some 36) (v := ?_) (a' := ?_) #[true, true, true, true, true, true, true, true, true, true, true, true, true, true, true, false, false, false, false, false] rfl rfl (any_of HT_.out (by kernel_rfl)) (fun _ _ _ h => h) (Or.inl ⟨by rfl, ?_⟩) ?_ ?_
       rotate_left
       ·intro w'
        go_simp
        with_reducible rfl
       rotate_left
       ·simp only [Act.put, List.setIfInBounds_toArray, List.set_cons_zero, List.set_cons_succ, i64_w, i32_w]
        rfl
       refine one_ (i := 15) (N := some 37) #[true, true, true, true, true, true, true, true, true, true, true, true, true, true, true, true, false, false, false, false] rfl rfl (one_of HT_.out (by kernel_rfl)) (by decide) (fun K hK => ?_)
       refine goes_ Try.func35 (by kernel_rfl) rfl #[.agg #[.int .i64 a0_0, .int .i64 a0_1, .slice A0_2 l0_2.length c0_2], .int .i64 (wrap64 ((wrap64 (a0_0 - 1)) - (Int.tmod x5_1 a0_0))), .int .i64 (wrap64 (Int.tdiv x5_1 a0_0))] (by rfl) rfl rfl mapx ?_
       with_reducible refine (barscanref31_At.calls a0_0 a0_1 _ _ l0_2 (wrap64 ((wrap64 (a0_0 - 1)) - (Int.tmod x5_1 a0_0))) (wrap64 (Int.tdiv x5_1 a0_0)) t711 _ ?side1 ?side2 A16.out).mono ?_
       (case side1 => repeat (first | exact (Kd.C_below HR0_2.out HB.out) | (with_reducible refine Kd.C_alloc ?_ _) | (with_reducible refine Kd.C_drewN ?_ _) | (with_reducible refine Kd.C_drew ?_)))
       (case side2 => exact HC0_2.out)
       rintro e w22 ⟨rfl, hb⟩
       refine ⟨_, rfl, ?_⟩
       have n0_ := Aside0.mk (Kd.R_below (rkx HO_711002) hb)
       have n1_ := Aside0.mk (blk_below (bkx BK707) hb)
       have n2_ := Aside0.mk (blk_below (bkx BK708) hb)
       have n3_ := Aside0.mk (blk_below (bkx BK710) hb)
       have n4_ := Aside0.mk (below_step (hb3 HB GE707 GE708 GE710) hb)
       clear HO_711002
       clear BK707
       clear BK708
       clear BK710
       clear HB
       have HO_711002 := n0_
       have BK707 := n1_
       have BK708 := n2_
       have BK710 := n3_
       have HB := n4_
       clear n0_ n1_ n2_ n3_ n4_
       (try clear hb)
       (try clear hb2)
       (try clear hk)
       (try clear hi)
       refine hK.out _ _ ⟨(blk_cell BK710.out 0).trans rfl, (blk_cell BK710.out 1).trans rfl, (blk_cell BK710.out 2).trans rfl, (blk_cell BK707.out 0).trans rfl, (blk_cell BK707.out 1).trans rfl, (blk_cell BK707.out 2).trans rfl⟩ (fun hHeld => ?_)
       clear hK K
       refine norm_ (a' := ?_) ?_ ?_
       rotate_left
       ·show Act.put _ (some 37) _ = _
        simp only [Act.put, List.setIfInBounds_toArray, List.set_cons_zero, List.set_cons_succ, i64_w, i32_w]
        rfl
       refine one_ (i := 16) (N := some 38) #[true, true, true, true, true, true, true, true, true, true, true, true, true, true, true, true, true, false, false, false] rfl rfl (one_of HT_.out (by kernel_rfl)) (by decide) (fun K hK => ?_)
       refine value_ (w1 := ?_) (v := ?_) (by rfl) rfl ?_ ?_
       rotate_left 2
       ·go_simp
        constructor
        ·rfl
        ·rfl
       refine hK.out _ _ ⟨(blk_cell (blk_alloc BK710.out _) 0).trans rfl, (blk_cell (blk_alloc BK710.out _) 1).trans rfl, (blk_cell (blk_alloc BK710.out _) 2).trans rfl, (blk_cell (blk_alloc BK707.out _) 0).trans rfl, (blk_cell (blk_alloc BK707.out _) 1).trans rfl, (blk_cell (blk_alloc BK707.out _) 2).trans rfl⟩ (fun hHeld => ?_)
       clear hK K
       refine norm_ (a' := ?_) ?_ ?_
       rotate_left
       ·show Act.put _ (some 38) _ = _
        simp only [Act.put, List.setIfInBounds_toArray, List.set_cons_zero, List.set_cons_succ, i64_w, i32_w]
        rfl
       refine one_ (i := 17) (N := some 39) #[true, true, true, true, true, true, true, true, true, true, true, true, true, true, true, true, true, true, false, false] rfl rfl (one_of HT_.out (by kernel_rfl)) (by decide) (fun K hK => ?_)
       refine Kd.R_append_step Kd.bool (w0 := w) w.heap.size (by rfl) (.tmp 23) (.tmp 38) 22 4 (.bool false) 1 rfl Try.underlying22 info4 rfl (by decide) (by omega) u711002 x711002_1 t711 [.bool t711] (fun _ => True) (fun _ => False) rfl rfl ?aP (fun _ hk => hk.elim) ?aF ?aO ?aB ?aS ?aL ?_
       (case aP => exact rfl)
       (case aB => exact (hb3 HB GE707 GE708 GE710))
       (case aF => exact (fun _ _ => trivial))
       (case aO => exact (rkx HO_711002))
       (case aS => exact (below_size (hb3 HB GE707 GE708 GE710)))
       (case aL => have := LMc17.out; omega)
       intro v713 w23 ho hb hg hat
       rw [← Ny712.out] at ho
       have n0_ := Aside0.mk (blk_grown (g := gb707) (o := .cells #[.int .i64 a0_0, .int .i64 a0_1, .slice A0_2 l0_2.length c0_2] 24 (0, 0)) (bkx BK707) hg (Kd.R_ne HO_711002.out BK707.out (by decide)))
       have n1_ := Aside0.mk (blk_grown (g := gb708) (o := .cells #[.int .i64 0, .int .i64 0, .slice none 0 0] 24 (0, 0)) (bkx BK708) hg (Kd.R_ne HO_711002.out BK708.out (by decide)))
       have n2_ := Aside0.mk (blk_grown (g := gb710) (o := .cells #[.int .i64 a0_0, .int .i64 a0_1, u711002] 24 (0, 0)) (bkx BK710) hg (Kd.R_ne HO_711002.out BK710.out (by decide)))
       have n3_ := Aside0.mk (hb)
       have n4_ := Aside0.mk (ho)
       clear BK707
       clear BK708
       clear BK710
       clear HB
       clear HO_711002
       have BK707 := n0_
       have BK708 := n1_
       have BK710 := n2_
       have HB := n3_
       have HO714 := n4_
       clear n0_ n1_ n2_ n3_ n4_
       clear ho hb hg hat
       obtain ⟨Ao24, co24, eo24⟩ := Kd.R_slice HO714.out
       (first | subst eo24 | (injection eo24 with f1_ f2_ f3_; have f4_ := f1_.symm; have f5_ := f3_.symm; clear f1_ f2_ f3_; subst f4_; subst f5_))
       refine hK.out _ _ ⟨(blk_cell BK710.out 0).trans rfl, (blk_cell BK710.out 1).trans rfl, (blk_cell BK710.out 2).trans rfl, (blk_cell BK707.out 0).trans rfl, (blk_cell BK707.out 1).trans rfl, (blk_cell BK707.out 2).trans rfl⟩ (fun hHeld => ?_)
       clear hK K
       refine norm_ (a' := ?_) ?_ ?_
       rotate_left
       ·show Act.put _ (some 39) _ = _
        simp only [Act.put, List.setIfInBounds_toArray, List.set_cons_zero, List.set_cons_succ, i64_w, i32_w]
        rfl
       refine pure_ (i := 18) (N := some 40) (v := ?_) (a' := ?_) #[true, true, true, true, true, true, true, true, true, true, true, true, true, true, true, true, true, true, true, false] rfl rfl (any_of HT_.out (by kernel_rfl)) (fun _ _ _ h => h) (Or.inl ⟨by rfl, ?_⟩) ?_ ?_
       rotate_left
       ·intro w'
        go_simp
        with_reducible rfl
       rotate_left
       ·simp only [Act.put, List.setIfInBounds_toArray, List.set_cons_zero, List.set_cons_succ, i64_w, i32_w]
        rfl
       refine last_ (i := 19) (N := none) #[true, true, true, true, true, true, true, true, true, true, true, true, true, true, true, true, true, true, true, true] rfl rfl (one_of HT_.out (by kernel_rfl)) (by decide) (fun K hK => ?_)
       have hs25 : w23.cell? ⟨gb710, 2, none⟩ = some (u711002) := (blk_cell BK710.out 2).trans rfl
       have hfs25 := blk_frozen BK710.out 2
       have hns25_0 := NB707_710.out
       have hns25_1 := NB708_710.out
       have hms25_0 := NB710_707.out
       have hms25_1 := NB710_708.out
       refine skip_ (w1 := ?_) (by rfl) rfl ?_ ?_
       rotate_left
       ·go_simp
        rfl
       refine hK.out _ _ ?_
       clear hK K
       refine done_ (done_of HT_.out (by kernel_rfl)) ?_
       try go_wp2
       go_roundg k1
       case measure => have := HK1.out; omega
       case rel => exact ⟨(wrap64 (x5_1 + 1)), (y712), (.slice Ao24 y712.length co24), (by first | rfl | (simp; done) | (simp [*]; done)), H', ⟨by have := HK1.out; omega⟩, ⟨by refine rkt ?_; exact Kd.R_mono (Kd.R_far (p := ⟨gb710, 2, none⟩) (Kd.R_types HO714.out BK710.out (by decide)) (fun _ hk => hk.2) (.slice Ao24 y712.length co24)) (fun _ hk => trivial)⟩, ⟨bky BK707 NB707_710⟩, ⟨bky BK708 NB708_710⟩, ⟨by refine bkt ?_; refine blk_put (cs := #[.int .i64 a0_0, .int .i64 a0_1, u711002]) ?_ 2 _ rfl; refine bkt ?_; exact BK710.out⟩, ⟨hb3 HB GE707 GE708 GE710⟩⟩
      ·rw [if_neg c17] at H
       exact absurd H (by simp)
    ·rw [if_neg c14] at H
     have c14b0 : decide (x5_1 < (l0_2.length : Int)) = false := decide_eq_false c14
     clear c14
     simp only [Option.some.injEq, Prod.mk.injEq] at H
     obtain ⟨rfl, rfl, rfl, rfl⟩ := H
     have hnb26 := NB707_708.out
     have hnc26 := NB708_707.out
     have hnb27 := NB707_710.out
     have hnc27 := NB710_707.out
     have hcz28_0 : wr.cell? ⟨gb707, 0, none⟩ = some (.int .i64 a0_0) := (blk_cell BK707.out 0).trans rfl
     have hcz28_1 : wr.cell? ⟨gb707, 1, none⟩ = some (.int .i64 a0_1) := (blk_cell BK707.out 1).trans rfl
     have hcz28_2 : wr.cell? ⟨gb707, 2, none⟩ = some (.slice A0_2 l0_2.length c0_2) := (blk_cell BK707.out 2).trans rfl
     have hfz28_0 := blk_frozen BK707.out 0
     have hfz28_1 := blk_frozen BK707.out 1
     have hfz28_2 := blk_frozen BK707.out 2
     have hnb29 := NB710_708.out
     have hnc29 := NB708_710.out
     have hcz30_0 : wr.cell? ⟨gb710, 0, none⟩ = some (.int .i64 a0_0) := (blk_cell BK710.out 0).trans rfl
     have hcz30_1 : wr.cell? ⟨gb710, 1, none⟩ = some (.int .i64 a0_1) := (blk_cell BK710.out 1).trans rfl
     have hcz30_2 : wr.cell? ⟨gb710, 2, none⟩ = some (u711002) := (blk_cell BK710.out 2).trans rfl
     have hfz30_0 := blk_frozen BK710.out 0
     have hfz30_1 := blk_frozen BK710.out 1
     have hfz30_2 := blk_frozen BK710.out 2
     have hcz31_0 : wr.cell? ⟨gb708, 0, none⟩ = some (.int .i64 0) := (blk_cell BK708.out 0).trans rfl
     have hcz31_1 : wr.cell? ⟨gb708, 1, none⟩ = some (.int .i64 0) := (blk_cell BK708.out 1).trans rfl
     have hcz31_2 : wr.cell? ⟨gb708, 2, none⟩ = some (.slice none 0 0) := (blk_cell BK708.out 2).trans rfl
     have hfz31_0 := blk_frozen BK708.out 0
     have hfz31_1 := blk_frozen BK708.out 1
     have hfz31_2 := blk_frozen BK708.out 2
     obtain ⟨Ao32, co32, eo32⟩ := Kd.R_slice HO_711002.out
     subst eo32
     go_wp2
     refine bodyPost_ret (results_ct rfl _ _ gb708 24 #[.int .i64 a0_0, .int .i64 a0_1, .slice Ao32 x711002_1.length co32] (0, 0) _ rfl (by refine bkt ?_; refine blk_put (cs := #[.int .i64 a0_0, .int .i64 a0_1, .slice none 0 0]) ?_ 2 _ rfl; refine bkt ?_; refine blk_put (cs := #[.int .i64 a0_0, .int .i64 0, .slice none 0 0]) ?_ 1 _ rfl; refine bkt ?_; refine blk_put (cs := #[.int .i64 0, .int .i64 0, .slice none 0 0]) ?_ 0 _ rfl; refine bkt ?_; exact BK708.out) Try.underlying24 rfl (by kernel_rfl)) rfl ?_
     exact ⟨_, by first | rfl | (simp [errW_none, errW_some] <;> rfl) | (simp [*, errW_none, errW_some] <;> rfl), by refine rkt ?_; exact Kd.R_mono (Kd.R_far (p := ⟨gb708, 2, none⟩) (Kd.R_far (p := ⟨gb708, 1, none⟩) (Kd.R_far (p := ⟨gb708, 0, none⟩) (Kd.R_types HO_711002.out BK708.out (by decide)) (fun _ hk => hk.2) (.int .i64 a0_0)) (fun _ hk => hk.2) (.int .i64 a0_1)) (fun _ hk => hk.2) (.slice Ao32 x711002_1.length co32)) (fun _ hk => trivial), by repeat (first | (with_reducible first | exact HB.out | apply below_alloc | apply pw_below_drewN | apply below_drew1 | refine below_set ?_ GE707.out | refine below_set ?_ GE708.out | refine below_set ?_ GE710.out) | exact HB.out)⟩
 ·replace c3 := Bool.eq_false_iff.mpr c3
  subst c3
  have H1 : (some (0, 0, ([] : List Bool), 1)) = some (r1, r2, r3, r4) := by rw [if_neg (show ¬ (false = true) by decide)] at H; exact H
  clear H
  have H := H1
  clear H1
  simp only [Option.some.injEq, Prod.mk.injEq] at H
  obtain ⟨rfl, rfl, rfl, rfl⟩ := H
  go_enter Try.func42, Try.ntmps42
  go_wp2_with (first | ((with_reducible refine gate_dst (N := 1) rfl ?_); refine box_event ?hg (N := 1) ?hd (cs := #[.int .i64 a0_0, .int .i64 a0_1, .slice A0_2 l0_2.length c0_2]) (t := 24) ?hr ?_; (case hd => rfl); (case hg => rfl); (case hr => first | (go_simp; done) | (go_simp; rfl)); intro gb707 hg w33 hbox hb; have n0_ := Aside0.mk (below_step (hb0 HB) hb); have n1_ := Aside0.mk (hbox); have n2_ := Aside0.mk ((by rw [hg]; exact (below_size (hb0 HB)) : w.heap.size ≤ gb707)); have n3_ := Aside0.mk ((by rw [hg]; exact (below_size (hb0 HB)) : w.heap.size ≤ gb707)); clear HB; have HB := n0_; have BK707 := n1_; have GW707 := n2_; have GE707 := n3_; clear n0_ n1_ n2_ n3_; clear hb hbox hg) | ((with_reducible refine gate_dst (N := 2) rfl ?_); refine box_event ?hg (N := 2) ?hd (cs := #[.int .i64 0, .int .i64 0, .slice none 0 0]) (t := 24) ?hr ?_; (case hd => rfl); (case hg => rfl); (case hr => first | (go_simp; done) | (go_simp; rfl)); intro gb708 hg w34 hbox hb; have n0_ := Aside0.mk (blk_below (bkx BK707) hb); have n1_ := Aside0.mk (below_step (hb1 HB GE707) hb); have n2_ := Aside0.mk (hbox); have n3_ := Aside0.mk ((by rw [hg]; exact (below_size (hb1 HB GE707)) : w.heap.size ≤ gb708)); have n4_ := Aside0.mk ((by rw [hg]; exact (below_size (hb1 HB GE707)) : w.heap.size ≤ gb708)); have n5_ := Aside0.mk (nel hg BK707 : gb707 ≠ gb708); have n6_ := Aside0.mk (neg hg BK707 : gb708 ≠ gb707); clear BK707; clear HB; have BK707 := n0_; have HB := n1_; have BK708 := n2_; have GW708 := n3_; have GE708 := n4_; have NB707_708 := n5_; have NB708_707 := n6_; clear n0_ n1_ n2_ n3_ n4_ n5_ n6_; clear hb hbox hg; have hnb35 := NB707_708.out; have hnc35 := NB708_707.out; have hcz36_0 : w34.cell? ⟨gb707, 0, none⟩ = some (.int .i64 a0_0) := (blk_cell BK707.out 0).trans rfl; have hcz36_1 : w34.cell? ⟨gb707, 1, none⟩ = some (.int .i64 a0_1) := (blk_cell BK707.out 1).trans rfl; have hcz36_2 : w34.cell? ⟨gb707, 2, none⟩ = some (.slice A0_2 l0_2.length c0_2) := (blk_cell BK707.out 2).trans rfl; have hfz36_0 := blk_frozen BK707.out 0; have hfz36_1 := blk_frozen BK707.out 1; have hfz36_2 := blk_frozen BK707.out 2) | ((with_reducible refine gate_callee (f := 26) rfl ?_); refine goesL_ (some 7) rfl rfl Try.func26 (by kernel_rfl) rfl #[.agg #[.int .i64 a0_0, .int .i64 a0_1, .slice A0_2 l0_2.length c0_2]] rfl mapx ?_; (with_reducible refine (barscanref31_Valid.calls a0_0 a0_1 _ _ l0_2 false _ ?side1 ?side2 A2.out).mono ?_); (case side1 => repeat (first | exact (Kd.C_below HR0_2.out HB.out) | (with_reducible refine Kd.C_alloc ?_ _) | (with_reducible refine Kd.C_drewN ?_ _) | (with_reducible refine Kd.C_drew ?_))); (case side2 => exact HC0_2.out); rintro e w37 ⟨rfl, hb⟩; refine ⟨_, rfl, ?_⟩; have n0_ := Aside0.mk (blk_below (bkx BK707) hb); have n1_ := Aside0.mk (blk_below (bkx BK708) hb); have n2_ := Aside0.mk (below_step (hb2 HB GE707 GE708) hb); clear BK707; clear BK708; clear HB; have BK707 := n0_; have BK708 := n1_; have HB := n2_; clear n0_ n1_ n2_; (try clear hb); (try clear hb2); (try clear hk); (try clear hi); have hcz38_0 : w37.cell? ⟨gb708, 0, none⟩ = some (.int .i64 0) := (blk_cell BK708.out 0).trans rfl; have hcz38_1 : w37.cell? ⟨gb708, 1, none⟩ = some (.int .i64 0) := (blk_cell BK708.out 1).trans rfl; have hcz38_2 : w37.cell? ⟨gb708, 2, none⟩ = some (.slice none 0 0) := (blk_cell BK708.out 2).trans rfl; have hfz38_0 := blk_frozen BK708.out 0; have hfz38_1 := blk_frozen BK708.out 1; have hfz38_2 := blk_frozen BK708.out 2))
  refine bodyPost_ret (results_ct rfl _ _ gb708 24 #[.int .i64 0, .int .i64 0, .slice none 0 0] (0, 0) _ rfl (by refine bkt ?_; refine blk_put (cs := #[.int .i64 0, .int .i64 0, .slice none 0 0]) ?_ 2 _ rfl; refine bkt ?_; refine blk_put (cs := #[.int .i64 0, .int .i64 0, .slice none 0 0]) ?_ 1 _ rfl; refine bkt ?_; refine blk_put (cs := #[.int .i64 0, .int .i64 0, .slice none 0 0]) ?_ 0 _ rfl; refine bkt ?_; exact BK708.out) Try.underlying24 rfl (by kernel_rfl)) rfl ?_
  exact ⟨_, by first | rfl | (simp [errW_none, errW_some] <;> rfl) | (simp [*, errW_none, errW_some] <;> rfl), by first | exact Kd.R_nil _ _ _ _ _ | exact Kd.N_nil _ _ _ _ _ | exact Kd.V_nil _ _ _ _ _ | exact Kd.Q_nil _ _ _ _ _ | exact Kd.S_nil _ _ _ _ _, by repeat (first | (with_reducible first | exact HB.out | apply below_alloc | apply pw_below_drewN | apply below_drew1 | refine below_set ?_ GE707.out | refine below_set ?_ GE708.out) | exact HB.out)⟩

/-! ### raster_Gray: function 43 -/
def raster_Gray.l0 : Nat → List Bool → Int → Int → Int → Int → List Int → Option (Int × Int × List Int × Int)
 | 0, _, _, _, _, _, _ => none
 | k + 1, x24, x25, x26, x722000, x722001, x722002 => if x26 < x25 then (if 0 ≤ x26 then (if x26 < (x24.length : Int) then (if rdOf false x24 x26 = true then (raster_Gray.l0 k x24 x25 (wrap64 (x26 + 1)) x722000 x722001 x722002) else (if x26 < (x722002.length : Int) then (raster_Gray.l0 k x24 x25 (wrap64 (x26 + 1)) x722000 x722001 (x722002.set (x26 : Int).toNat 255)) else (none))) else (none)) else (none)) else (some (x722000, x722001, x722002, 0))
def raster_Gray.f (k : Nat) (a0_0 : Int) (a0_1 : Int) (l0_2 : List Bool) : Option (Int × Int × List Int × Int) := (raster_Check.f a0_0 a0_1 l0_2).bind fun t717 => (if t717 = 0 then (if 0 ≤ (l0_2.length : Int) then (if ((l0_2.length : Int) : Int).toNat ≤ 281474976710656 then (raster_Gray.l0 k l0_2 (l0_2.length : Int) 0 a0_0 a0_1 (List.replicate ((l0_2.length : Int) : Int).toNat 0)) else (none)) else (none)) else (some (0, 0, ([] : List Int), t717)))
theorem raster_Gray.mono_l : ∀ k, (∀ y0 y1 y2 y3 y4 y5, LeO (raster_Gray.l0 k y0 y1 y2 y3 y4 y5) (raster_Gray.l0 (k + 1) y0 y1 y2 y3 y4 y5))
 | 0 => fun _ _ _ _ _ _ r h => by simp [raster_Gray.l0] at h
 | k + 1 => by
  have ih0 := raster_Gray.mono_l k
  ·intro y0 y1 y2 y3 y4 y5
   unfold raster_Gray.l0
   repeat' first
   | (with_reducible exact ih0 _ _ _ _ _ _)
   | (with_reducible exact LeO.refl _)
   | (with_reducible exact LeO.none _)
   | (with_reducible refine LeO.ite ?_ ?_)
   | (with_reducible refine LeO.bind ?_ (fun _ => ?_))
   | exact ih0 _ _ _ _ _ _
   | exact LeO.none _
   | refine LeO.ite ?_ ?_
   | refine LeO.bind ?_ (fun _ => ?_)
theorem raster_Gray.mono : ∀ a0 a1 a2 k, LeO (raster_Gray.f k a0 a1 a2) (raster_Gray.f (k + 1) a0 a1 a2) := by
 intro a0 a1 a2 k
 have ih0 := raster_Gray.mono_l k
 unfold raster_Gray.f
 repeat' first
   | (with_reducible exact ih0 _ _ _ _ _ _)
   | (with_reducible exact LeO.refl _)
   | (with_reducible exact LeO.none _)
   | (with_reducible refine LeO.ite ?_ ?_)
   | (with_reducible refine LeO.bind ?_ (fun _ => ?_))
   | exact ih0 _ _ _ _ _ _
   | exact LeO.none _
   | refine LeO.ite ?_ ?_
   | refine LeO.bind ?_ (fun _ => ?_)
def raster_Gray.T4 : Bool × List (List Nat × List Nat) := (true, [([], []), ([0], [0]), ([], []), ([2], [2]), ([], []), ([4], [4]), ([5], [5]), ([6, 6], [6]), ([1, 3, 7], [1, 3, 7]), ([], []), ([9, 8, 0, 1, 2, 3, 4, 5, 6, 7, 8, 9], [8, 9])])
def raster_Gray.B4 : List Nat := [0, 1, 0, 4, 0, 16, 48, 112, 255, 0, 1023]
theorem raster_Gray.tab4 : rtab .any (opsOf Try.f43 4) = raster_Gray.T4 := by kernel_rfl
theorem raster_Gray.bits4 : waitsOk raster_Gray.T4.2 raster_Gray.B4 = true := by kernel_rfl
set_option maxHeartbeats 8000000 in
set_option maxRecDepth 100000 in
theorem raster_Gray.calls (k : Nat) (a0_0 : Int) (a0_1 : Int) (A0_2 : Option Addr) (c0_2 : Nat) (l0_2 : List Bool) (r1 : Int) (r2 : Int) (r3 : List Int) (r4 : Int) (w : World) (hr0_2 : Kd.C Kd.bool w A0_2 l0_2.length l0_2) (hc0_2 : l0_2.length ≤ c0_2) (h : raster_Gray.f k a0_0 a0_1 l0_2 = some (r1, r2, r3, r4)) :
  Calls Try.prog 43 #[.agg #[.int .i64 a0_0, .int .i64 a0_1, .slice A0_2 l0_2.length c0_2]] w fun e w' => ∃ v2_ : Value, e = .returned (.tuple #[.agg #[.int .i64 r1, .int .i64 r2, v2_], .int .i64 r4]) ∧ Kd.R (Kd.int .u8) 5 w' w.heap.size (fun _ => True) v2_ r3 ∧ Below w.heap.size w w' := by
 have hu24 := Try.underlying24
 have hu58 := Try.underlying58
 have HR0_2 := Aside0.mk hr0_2
 have HC0_2 := Aside0.mk hc0_2
 clear hr0_2 hc0_2
 have HB := Aside0.mk (Below.refl w.heap.size w)
 have H : ((raster_Check.f a0_0 a0_1 l0_2).bind fun t717 => (if t717 = 0 then (if 0 ≤ (l0_2.length : Int) then (if ((l0_2.length : Int) : Int).toNat ≤ 281474976710656 then (raster_Gray.l0 k l0_2 (l0_2.length : Int) 0 a0_0 a0_1 (List.replicate ((l0_2.length : Int) : Int).toNat 0)) else (none)) else (none)) else (some (0, 0, ([] : List Int), t717)))) = some (r1, r2, r3, r4) := h
 clear h
 replace H := Option.bind_eq_some_iff.mp H
 obtain ⟨t717, A20, H⟩ := H
 replace H : (if t717 = 0 then (if 0 ≤ (l0_2.length : Int) then (if ((l0_2.length : Int) : Int).toNat ≤ 281474976710656 then (raster_Gray.l0 k l0_2 (l0_2.length : Int) 0 a0_0 a0_1 (List.replicate ((l0_2.length : Int) : Int).toNat 0)) else (none)) else (none)) else (some (0, 0, ([] : List Int), t717))) = some (r1, r2, r3, r4) := H
 have A2 := Aside0.mk A20
 clear A20
 by_cases c3 : t717 = 0
 ·rw [if_pos c3] at H
  have c3b0 : (t717 == 0) = true := beq_iff_eq.mpr c3
  have c3b1 : (t717 != 0) = false := bne_eq_false_iff_eq.mpr c3
  clear c3
  by_cases c4 : 0 ≤ (l0_2.length : Int)
  ·rw [if_pos c4] at H
   have c4b0 := eq_true c4
   have c4b1 : decide (0 ≤ (l0_2.length : Int)) = true := decide_eq_true c4
   clear c4
   by_cases c5 : ((l0_2.length : Int) : Int).toNat ≤ 281474976710656
   ·rw [if_pos c5] at H
    have c5b0 := eq_true c5
    have c5b1 : decide (((l0_2.length : Int) : Int).toNat ≤ 281474976710656) = true := decide_eq_true c5
    clear c5
    obtain ⟨y718, hy718⟩ : ∃ y_ : List Int, y_ = (List.replicate ((l0_2.length : Int) : Int).toNat 0) := ⟨_, rfl⟩
    replace H : (raster_Gray.l0 k l0_2 (l0_2.length : Int) 0 a0_0 a0_1 y718) = some (r1, r2, r3, r4) := by first | (rw [hy718]; with_reducible exact H) | (have H2_ := (Option.bind_some _ _).symm.trans H; rw [hy718]; with_reducible exact H2_) | (have H2_ := (Option.bind_some _ _).symm.trans H; with_reducible exact H2_) | with_reducible exact H | (rw [hy718]; exact H) | exact H
    have Ny718 := Aside0.mk hy718
    clear hy718
    have H' := Aside0.mk H
    clear H
    go_enter Try.func43, Try.ntmps43
    try go_wp2_with (first | ((with_reducible refine gate_dst (N := 1) rfl ?_); refine box_event ?hg (N := 1) ?hd (cs := #[.int .i64 a0_0, .int .i64 a0_1, .slice A0_2 l0_2.length c0_2]) (t := 24) ?hr ?_; (case hd => rfl); (case hg => rfl); (case hr => first | (go_simp; done) | (go_simp; rfl)); intro gb715 hg w6 hbox hb; have n0_ := Aside0.mk (below_step (hb0 HB) hb); have n1_ := Aside0.mk (hbox); have n2_ := Aside0.mk ((by rw [hg]; exact (below_size (hb0 HB)) : w.heap.size ≤ gb715)); have n3_ := Aside0.mk ((by rw [hg]; exact (below_size (hb0 HB)) : w.heap.size ≤ gb715)); clear HB; have HB := n0_; have BK715 := n1_; have GW715 := n2_; have GE715 := n3_; clear n0_ n1_ n2_ n3_; clear hb hbox hg) | ((with_reducible refine gate_dst (N := 2) rfl ?_); refine box_event ?hg (N := 2) ?hd (cs := #[.int .i64 0, .int .i64 0, .slice none 0 0]) (t := 58) ?hr ?_; (case hd => rfl); (case hg => rfl); (case hr => first | (go_simp; done) | (go_simp; rfl)); intro gb716 hg w7 hbox hb; have n0_ := Aside0.mk (blk_below (bkx BK715) hb); have n1_ := Aside0.mk (below_step (hb1 HB GE715) hb); have n2_ := Aside0.mk (hbox); have n3_ := Aside0.mk ((by rw [hg]; exact (below_size (hb1 HB GE715)) : w.heap.size ≤ gb716)); have n4_ := Aside0.mk ((by rw [hg]; exact (below_size (hb1 HB GE715)) : w.heap.size ≤ gb716)); have n5_ := Aside0.mk (nel hg BK715 : gb715 ≠ gb716); have n6_ := Aside0.mk (neg hg BK715 : gb716 ≠ gb715); clear BK715; clear HB; have BK715 := n0_; have HB := n1_; have BK716 := n2_; have GW716 := n3_; have GE716 := n4_; have NB715_716 := n5_; have NB716_715 := n6_; clear n0_ n1_ n2_ n3_ n4_ n5_ n6_; clear hb hbox hg; have hnb8 := NB715_716.out; have hnc8 := NB716_715.out; have hcz9_0 : w7.cell? ⟨gb715, 0, none⟩ = some (.int .i64 a0_0) := (blk_cell BK715.out 0).trans rfl; have hcz9_1 : w7.cell? ⟨gb715, 1, none⟩ = some (.int .i64 a0_1) := (blk_cell BK715.out 1).trans rfl; have hcz9_2 : w7.cell? ⟨gb715, 2, none⟩ = some (.slice A0_2 l0_2.length c0_2) := (blk_cell BK715.out 2).trans rfl; have hfz9_0 := blk_frozen BK715.out 0; have hfz9_1 := blk_frozen BK715.out 1; have hfz9_2 := blk_frozen BK715.out 2) | ((with_reducible refine gate_callee (f := 23) rfl ?_); refine goesL_ (some 9) rfl rfl Try.func23 (by kernel_rfl) rfl #[.agg #[.int .i64 a0_0, .int .i64 a0_1, .slice A0_2 l0_2.length c0_2]] rfl mapx ?_; (with_reducible refine (raster_Check.calls a0_0 a0_1 _ _ l0_2 t717 _ ?side1 ?side2 A2.out).mono ?_); (case side1 => repeat (first | exact (Kd.C_below HR0_2.out HB.out) | (with_reducible refine Kd.C_alloc ?_ _) | (with_reducible refine Kd.C_drewN ?_ _) | (with_reducible refine Kd.C_drew ?_))); (case side2 => exact HC0_2.out); rintro e w10 ⟨rfl, hb⟩; refine ⟨_, rfl, ?_⟩; have n0_ := Aside0.mk (blk_below (bkx BK715) hb); have n1_ := Aside0.mk (blk_below (bkx BK716) hb); have n2_ := Aside0.mk (below_step (hb2 HB GE715 GE716) hb); clear BK715; clear BK716; clear HB; have BK715 := n0_; have BK716 := n1_; have HB := n2_; clear n0_ n1_ n2_; (try clear hb); (try clear hb2); (try clear hk); (try clear hi)))
    have n0_ := Aside0.mk (blk_drew BK715.out)
    have n1_ := Aside0.mk (blk_drew BK716.out)
    have n2_ := Aside0.mk (below_drew1 HB.out)
    clear BK715
    clear BK716
    clear HB
    have BK715 := n0_
    have BK716 := n1_
    have HB := n2_
    clear n0_ n1_ n2_
    refine start_ (n := 11) (S := fun w' => w'.cell? ⟨gb715, 0, none⟩ = some (.int .i64 a0_0) ∧ w'.cell? ⟨gb715, 1, none⟩ = some (.int .i64 a0_1) ∧ w'.cell? ⟨gb715, 2, none⟩ = some (.slice A0_2 l0_2.length c0_2)) (ds := []) #[false, false, false, false, false, false, false, false, false, false, false] (by kernel_rfl) rfl rfl ⟨(blk_cell BK715.out 0).trans rfl, (blk_cell BK715.out 1).trans rfl, (blk_cell BK715.out 2).trans rfl⟩ (fun hHeld => ?_); refine with_tabW raster_Gray.tab4 raster_Gray.bits4 (fun HT_ HW_ => ?_)
    generalize w10.drew = w11 at BK715 BK716 HB hHeld ⊢
    refine pure_ (i := 0) (N := some 14) (v := ?_) (a' := ?_) #[true, false, false, false, false, false, false, false, false, false, false] rfl rfl (any_of HT_.out (by kernel_rfl)) (fun _ _ _ h => h) (Or.inl ⟨by rfl, ?_⟩) ?_ ?_
    rotate_left
    ·intro w'
     go_simp
     with_reducible rfl
    rotate_left
    ·simp only [Act.put, List.setIfInBounds_toArray, List.set_cons_zero, List.set_cons_succ, i64_w, i32_w]
     rfl
    refine pure_ (i := 2) (N := some 16) (v := ?_) (a' := ?_) #[true, false, true, false, false, false, false, false, false, false, false] rfl rfl (any_of HT_.out (by kernel_rfl)) (fun _ _ _ h => h) (Or.inl ⟨by rfl, ?_⟩) ?_ ?_
    rotate_left
    ·intro w'
     go_simp
     with_reducible rfl
    rotate_left
    ·simp only [Act.put, List.setIfInBounds_toArray, List.set_cons_zero, List.set_cons_succ, i64_w, i32_w]
     rfl
    refine pure_ (i := 4) (N := some 18) (v := ?_) (a' := ?_) #[true, false, true, false, true, false, false, false, false, false, false] rfl rfl (any_of HT_.out (by kernel_rfl)) (fun _ _ _ h => h) (Or.inl ⟨by rfl, ?_⟩) ?_ ?_
    rotate_left
    ·intro w'
     go_simp
     with_reducible rfl
    rotate_left
    ·simp only [Act.put, List.setIfInBounds_toArray, List.set_cons_zero, List.set_cons_succ, i64_w, i32_w]
     rfl
    refine take_ (i := 1) (N := some 15) (v := ?_) (a' := ?_) #[true, true, true, false, true, false, false, false, false, false, false] rfl rfl (take_ofW HT_.out HW_.out (by kernel_rfl)) (fun _ _ _ h => h) (Or.inl ⟨by rfl, ?_⟩) hHeld ?_ ?_
    rotate_left
    ·rintro w' ⟨s0, s1, s2⟩
     go_simp
     with_reducible rfl
    rotate_left
    ·simp only [Act.put, List.setIfInBounds_toArray, List.set_cons_zero, List.set_cons_succ, i64_w, i32_w]
     rfl
    refine take_ (i := 3) (N := some 17) (v := ?_) (a' := ?_) #[true, true, true, true, true, false, false, false, false, false, false] rfl rfl (take_ofW HT_.out HW_.out (by kernel_rfl)) (fun _ _ _ h => h) (Or.inl ⟨by rfl, ?_⟩) hHeld ?_ ?_
    rotate_left
    ·rintro w' ⟨s0, s1, s2⟩
     go_simp
     with_reducible rfl
    rotate_left
    ·simp only [Act.put, List.setIfInBounds_toArray, List.set_cons_zero, List.set_cons_succ, i64_w, i32_w]
     rfl
    refine take_ (i := 5) (N := some 19) (v := ?_) (a' := ?_) #[true, true, true, true, true, true, false, false, false, false, false] rfl rfl (take_ofW HT_.out HW_.out (by kernel_rfl)) (fun _ _ _ h => h) (Or.inl ⟨by rfl, ?_⟩) hHeld ?_ ?_
    rotate_left
    ·rintro w' ⟨s0, s1, s2⟩
     go_simp
     with_reducible rfl
    rotate_left
    ·simp only [Act.put, List.setIfInBounds_toArray, List.set_cons_zero, List.set_cons_succ, i64_w, i32_w]
     rfl
    refine pure_ (i := 6) (N := some 20) (v := ?_) (a' := ?_) #[true, true, true, true, true, true, true, false, false, false, false] rfl rfl (any_of HT_.out (by kernel_rfl)) (fun _ _ _ h => h) (Or.inl ⟨by rfl, ?_⟩) ?_ ?_
    rotate_left
    ·intro w'
     go_simp
     with_reducible rfl
    rotate_left
    ·simp only [Act.put, List.setIfInBounds_toArray, List.set_cons_zero, List.set_cons_succ, i64_w, i32_w]
     rfl
    refine join_ (σ := Value × Nat) 1 #[true, true, true, true, true, true, true, true, true, true, false] (fun s_ => [(21, s_.1), (5, .pointer (some ⟨s_.2, 0, none⟩)), (22, .agg #[.int .i64 a0_0, .int .i64 a0_1, s_.1])]) (fun s_ w' => (w'.cell? ⟨gb715, 0, none⟩ = some (.int .i64 a0_0) ∧ w'.cell? ⟨gb715, 1, none⟩ = some (.int .i64 a0_1) ∧ w'.cell? ⟨gb715, 2, none⟩ = some (.slice A0_2 l0_2.length c0_2)) ∧ (Kd.R (Kd.int .u8) 5 w' w.heap.size (fun _ => True) s_.1 y718) ∧ (w'.heap[gb715]? = some (.cells #[.int .i64 a0_0, .int .i64 a0_1, .slice A0_2 l0_2.length c0_2] 24 (0, 0))) ∧ (w'.heap[gb716]? = some (.cells #[.int .i64 0, .int .i64 0, .slice none 0 0] 58 (0, 0))) ∧ (w'.heap[s_.2]? = some (.cells #[.int .i64 0, .int .i64 0, .slice none 0 0] 58 (0, 0))) ∧ (w.heap.size ≤ s_.2) ∧ (w.heap.size ≤ s_.2) ∧ (gb715 ≠ s_.2) ∧ (s_.2 ≠ gb715) ∧ (gb716 ≠ s_.2) ∧ (s_.2 ≠ gb716) ∧ (Below w.heap.size w w')) ?_ ?_
    rotate_left
    ·intro hCont
     refine two_ (i := 7) (j := 9) (Ni := some 21) (Nj := some 5) #[true, true, true, true, true, true, true, true, false, false, false] #[true, true, true, true, true, true, true, false, false, true, false] rfl rfl rfl rfl (two_of HT_.out (by kernel_rfl)) (by decide) (by decide) (fun K hK => ?_) (fun K hK => ?_)
     ·skip
      refine Kd.R_make_step (Kd.int .u8) _ 5 (by rfl) (N := 21) rfl 56 _ _ rfl (l0_2.length : Int) rfl rfl Try.underlying56 (.int .u8 0) 1 info5 rfl (by decide) (by omega) 0 (ok := fun _ => True) (okp := fun _ => True) rfl (fun _ hk => hk) trivial (of_decide_eq_true (by first | (with_reducible assumption) | assumption)) (Nat.le_trans (Nat.mul_le_mul_right _ (of_decide_eq_true (by first | (with_reducible assumption) | assumption) : (l0_2.length : Int).toNat ≤ 281474976710656)) (by omega)) (Below.refl _ _) (Nat.le_refl _) ?_
      intro v719 w12 ho13 hb hg_ hnew_
      clear hg_ hnew_
      (first | rw [← Ny718.out] at ho13 | (simp only [Int.reduceToNat] at ho13; rw [← Ny718.out] at ho13))
      have n0_ := Aside0.mk (Kd.R_lower ho13 (below_size (hb2 HB GE715 GE716)))
      have n1_ := Aside0.mk (blk_below (bkx BK715) hb)
      have n2_ := Aside0.mk (blk_below (bkx BK716) hb)
      have n3_ := Aside0.mk (below_step (hb2 HB GE715 GE716) hb)
      clear BK715
      clear BK716
      clear HB
      have HO720 := n0_
      have BK715 := n1_
      have BK716 := n2_
      have HB := n3_
      clear n0_ n1_ n2_ n3_
      clear hb ho13
      obtain ⟨Ao14, co14, eo14⟩ := Kd.R_slice HO720.out
      (first | subst eo14 | (injection eo14 with f1_ f2_ f3_; have f4_ := f1_.symm; have f5_ := f3_.symm; clear f1_ f2_ f3_; subst f4_; subst f5_))
      refine hK.out _ _ ⟨(blk_cell BK715.out 0).trans rfl, (blk_cell BK715.out 1).trans rfl, (blk_cell BK715.out 2).trans rfl⟩ (fun hHeld => ?_)
      clear hK K
      refine norm_ (a' := ?_) ?_ ?_
      rotate_left
      ·show Act.put _ (some 21) _ = _
       simp only [Act.put, List.setIfInBounds_toArray, List.set_cons_zero, List.set_cons_succ, i64_w, i32_w]
       rfl
      refine pure_ (i := 8) (N := some 22) (v := ?_) (a' := ?_) #[true, true, true, true, true, true, true, true, true, false, false] rfl rfl (any_of HT_.out (by kernel_rfl)) (fun _ _ _ h => h) (Or.inl ⟨by rfl, ?_⟩) ?_ ?_
      rotate_left
      ·intro w'
       go_simp
       with_reducible rfl
      rotate_left
      ·simp only [Act.put, List.setIfInBounds_toArray, List.set_cons_zero, List.set_cons_succ, i64_w, i32_w]
       rfl
      refine one_ (i := 9) (N := some 5) #[true, true, true, true, true, true, true, true, true, true, false] rfl rfl (one_of HT_.out (by kernel_rfl)) (by decide) (fun K hK => ?_)
      refine box_step ?hg (N := 5) ?hd (cs := #[.int .i64 0, .int .i64 0, .slice none 0 0]) (t := 58) ?hr ?_; (case hd => rfl); (case hg => rfl); (case hr => first | (go_simp; done) | (go_simp; rfl))
      intro gb721 hg w15 hbox hb
      have n0_ := Aside0.mk (Kd.R_below (rkx HO720) hb)
      have n1_ := Aside0.mk (blk_below (bkx BK715) hb)
      have n2_ := Aside0.mk (blk_below (bkx BK716) hb)
      have n3_ := Aside0.mk (below_step (hb2 HB GE715 GE716) hb)
      have n4_ := Aside0.mk (hbox)
      have n5_ := Aside0.mk ((by rw [hg]; exact (below_size (hb2 HB GE715 GE716)) : w.heap.size ≤ gb721))
      have n6_ := Aside0.mk ((by rw [hg]; exact (below_size (hb2 HB GE715 GE716)) : w.heap.size ≤ gb721))
      have n7_ := Aside0.mk (nel hg BK715 : gb715 ≠ gb721)
      have n8_ := Aside0.mk (neg hg BK715 : gb721 ≠ gb715)
      have n9_ := Aside0.mk (nel hg BK716 : gb716 ≠ gb721)
      have n10_ := Aside0.mk (neg hg BK716 : gb721 ≠ gb716)
      clear HO720
      clear BK715
      clear BK716
      clear HB
      have HO720 := n0_
      have BK715 := n1_
      have BK716 := n2_
      have HB := n3_
      have BK721 := n4_
      have GW721 := n5_
      have GE721 := n6_
      have NB715_721 := n7_
      have NB721_715 := n8_
      have NB716_721 := n9_
      have NB721_716 := n10_
      clear n0_ n1_ n2_ n3_ n4_ n5_ n6_ n7_ n8_ n9_ n10_
      clear hb hbox hg
      refine hK.out _ _ ⟨(blk_cell BK715.out 0).trans rfl, (blk_cell BK715.out 1).trans rfl, (blk_cell BK715.out 2).trans rfl⟩ (fun hHeld => ?_)
      clear hK K
      refine norm_ (a' := ?_) ?_ ?_
      rotate_left
      ·show Act.put _ (some 5) _ = _
       simp only [Act.put, List.setIfInBounds_toArray, List.set_cons_zero, List.set_cons_succ, i64_w, i32_w]
       rfl
      exact norm_ (by simp only [putAll, Act.put, List.setIfInBounds_toArray, List.set_cons_zero, List.set_cons_succ]) (hCont (.slice Ao14 y718.length co14, gb721) _ ⟨hHeld, (rkx HO720), (bkx BK715), (bkx BK716), (bkx BK721), GW721.out, GE721.out, NB715_721.out, NB721_715.out, NB716_721.out, NB721_716.out, (hb3 HB GE715 GE716 GE721)⟩)
     ·skip
      refine box_step ?hg (N := 5) ?hd (cs := #[.int .i64 0, .int .i64 0, .slice none 0 0]) (t := 58) ?hr ?_; (case hd => rfl); (case hg => rfl); (case hr => first | (go_simp; done) | (go_simp; rfl))
      intro gb721 hg w12 hbox hb
      have n0_ := Aside0.mk (blk_below (bkx BK715) hb)
      have n1_ := Aside0.mk (blk_below (bkx BK716) hb)
      have n2_ := Aside0.mk (below_step (hb2 HB GE715 GE716) hb)
      have n3_ := Aside0.mk (hbox)
      have n4_ := Aside0.mk ((by rw [hg]; exact (below_size (hb2 HB GE715 GE716)) : w.heap.size ≤ gb721))
      have n5_ := Aside0.mk ((by rw [hg]; exact (below_size (hb2 HB GE715 GE716)) : w.heap.size ≤ gb721))
      have n6_ := Aside0.mk (nel hg BK715 : gb715 ≠ gb721)
      have n7_ := Aside0.mk (neg hg BK715 : gb721 ≠ gb715)
      have n8_ := Aside0.mk (nel hg BK716 : gb716 ≠ gb721)
      have n9_ := Aside0.mk (neg hg BK716 : gb721 ≠ gb716)
      clear BK715
      clear BK716
      clear HB
      have BK715 := n0_
      have BK716 := n1_
      have HB := n2_
      have BK721 := n3_
      have GW721 := n4_
      have GE721 := n5_
      have NB715_721 := n6_
      have NB721_715 := n7_
      have NB716_721 := n8_
      have NB721_716 := n9_
      clear n0_ n1_ n2_ n3_ n4_ n5_ n6_ n7_ n8_ n9_
      clear hb hbox hg
      refine hK.out _ _ ⟨(blk_cell BK715.out 0).trans rfl, (blk_cell BK715.out 1).trans rfl, (blk_cell BK715.out 2).trans rfl⟩ (fun hHeld => ?_)
      clear hK K
      refine norm_ (a' := ?_) ?_ ?_
      rotate_left
      ·show Act.put _ (some 5) _ = _
       simp only [Act.put, List.setIfInBounds_toArray, List.set_cons_zero, List.set_cons_succ, i64_w, i32_w]
       rfl
      refine one_ (i := 7) (N := some 21) #[true, true, true, true, true, true, true, true, false, true, false] rfl rfl (one_of HT_.out (by kernel_rfl)) (by decide) (fun K hK => ?_)
      refine Kd.R_make_step (Kd.int .u8) _ 5 (by rfl) (N := 21) rfl 56 _ _ rfl (l0_2.length : Int) rfl rfl Try.underlying56 (.int .u8 0) 1 info5 rfl (by decide) (by omega) 0 (ok := fun _ => True) (okp := fun _ => True) rfl (fun _ hk => hk) trivial (of_decide_eq_true (by first | (with_reducible assumption) | assumption)) (Nat.le_trans (Nat.mul_le_mul_right _ (of_decide_eq_true (by first | (with_reducible assumption) | assumption) : (l0_2.length : Int).toNat ≤ 281474976710656)) (by omega)) (Below.refl _ _) (Nat.le_refl _) ?_
      intro v719 w13 ho14 hb hg_ hnew_
      clear hg_ hnew_
      (first | rw [← Ny718.out] at ho14 | (simp only [Int.reduceToNat] at ho14; rw [← Ny718.out] at ho14))
      have n0_ := Aside0.mk (Kd.R_lower ho14 (below_size (hb3 HB GE715 GE716 GE721)))
      have n1_ := Aside0.mk (blk_below (bkx BK715) hb)
      have n2_ := Aside0.mk (blk_below (bkx BK716) hb)
      have n3_ := Aside0.mk (blk_below (bkx BK721) hb)
      have n4_ := Aside0.mk (below_step (hb3 HB GE715 GE716 GE721) hb)
      clear BK715
      clear BK716
      clear BK721
      clear HB
      have HO720 := n0_
      have BK715 := n1_
      have BK716 := n2_
      have BK721 := n3_
      have HB := n4_
      clear n0_ n1_ n2_ n3_ n4_
      clear hb ho14
      obtain ⟨Ao15, co15, eo15⟩ := Kd.R_slice HO720.out
      (first | subst eo15 | (injection eo15 with f1_ f2_ f3_; have f4_ := f1_.symm; have f5_ := f3_.symm; clear f1_ f2_ f3_; subst f4_; subst f5_))
      refine hK.out _ _ ⟨(blk_cell BK715.out 0).trans rfl, (blk_cell BK715.out 1).trans rfl, (blk_cell BK715.out 2).trans rfl⟩ (fun hHeld => ?_)
      clear hK K
      refine norm_ (a' := ?_) ?_ ?_
      rotate_left
      ·show Act.put _ (some 21) _ = _
       simp only [Act.put, List.setIfInBounds_toArray, List.set_cons_zero, List.set_cons_succ, i64_w, i32_w]
       rfl
      refine pure_ (i := 8) (N := some 22) (v := ?_) (a' := ?_) #[true, true, true, true, true, true, true, true, true, true, false] rfl rfl (any_of HT_.out (by kernel_rfl)) (fun _ _ _ h => h) (Or.inl ⟨by rfl, ?_⟩) ?_ ?_
      rotate_left
      ·intro w'
       go_simp
       with_reducible rfl
      rotate_left
      ·simp only [Act.put, List.setIfInBounds_toArray, List.set_cons_zero, List.set_cons_succ, i64_w, i32_w]
       rfl
      exact norm_ (by simp only [putAll, Act.put, List.setIfInBounds_toArray, List.set_cons_zero, List.set_cons_succ]) (hCont (.slice Ao15 y718.length co15, gb721) _ ⟨hHeld, (rkx HO720), (bkx BK715), (bkx BK716), (bkx BK721), GW721.out, GE721.out, NB715_721.out, NB721_715.out, NB716_721.out, NB721_716.out, (hb3 HB GE715 GE716 GE721)⟩)
    rintro ⟨v719, gb721⟩ w16 ⟨hS_, h0_, h1_, h2_, h3_, h4_, h5_, h6_, h7_, h8_, h9_, h10_⟩
    have n0_ : Aside0 (Kd.R (Kd.int .u8) 5 w16 w.heap.size (fun _ => True) v719 y718) := ⟨h0_⟩
    have n1_ : Aside0 (w16.heap[gb715]? = some (.cells #[.int .i64 a0_0, .int .i64 a0_1, .slice A0_2 l0_2.length c0_2] 24 (0, 0))) := ⟨h1_⟩
    have n2_ : Aside0 (w16.heap[gb716]? = some (.cells #[.int .i64 0, .int .i64 0, .slice none 0 0] 58 (0, 0))) := ⟨h2_⟩
    have n3_ : Aside0 (w16.heap[gb721]? = some (.cells #[.int .i64 0, .int .i64 0, .slice none 0 0] 58 (0, 0))) := ⟨h3_⟩
    have n4_ : Aside0 (w.heap.size ≤ gb721) := ⟨h4_⟩
    have n5_ : Aside0 (w.heap.size ≤ gb721) := ⟨h5_⟩
    have n6_ : Aside0 (gb715 ≠ gb721) := ⟨h6_⟩
    have n7_ : Aside0 (gb721 ≠ gb715) := ⟨h7_⟩
    have n8_ : Aside0 (gb716 ≠ gb721) := ⟨h8_⟩
    have n9_ : Aside0 (gb721 ≠ gb716) := ⟨h9_⟩
    have n10_ : Aside0 (Below w.heap.size w w16) := ⟨h10_⟩
    clear BK715
    clear BK716
    clear HB
    clear h0_ h1_ h2_ h3_ h4_ h5_ h6_ h7_ h8_ h9_ h10_
    have HO720 := n0_
    have BK715 := n1_
    have BK716 := n2_
    have BK721 := n3_
    have GW721 := n4_
    have GE721 := n5_
    have NB715_721 := n6_
    have NB721_715 := n7_
    have NB716_721 := n8_
    have NB721_716 := n9_
    have HB := n10_
    clear n0_ n1_ n2_ n3_ n4_ n5_ n6_ n7_ n8_ n9_ n10_
    have hHeld : w16.cell? ⟨gb715, 0, none⟩ = some (.int .i64 a0_0) ∧ w16.cell? ⟨gb715, 1, none⟩ = some (.int .i64 a0_1) ∧ w16.cell? ⟨gb715, 2, none⟩ = some (.slice A0_2 l0_2.length c0_2) := hS_
    obtain ⟨Ao17, co17, eo17⟩ := Kd.R_slice HO720.out
    (first | subst eo17 | (injection eo17 with f1_ f2_ f3_; have f4_ := f1_.symm; have f5_ := f3_.symm; clear f1_ f2_ f3_; subst f4_; subst f5_))
    refine norm_ (a' := ?_) ?_ ?_
    rotate_left
    ·simp only [putAll, Act.put, List.setIfInBounds_toArray, List.set_cons_zero, List.set_cons_succ]
     rfl
    refine one_ (i := 10) (N := none) #[true, true, true, true, true, true, true, true, true, true, true] rfl rfl (one_of HT_.out (by kernel_rfl)) (by decide) (fun K hK => ?_)
    have hs18 : w16.cell? ⟨gb721, 0, none⟩ = some (.int .i64 0) := (blk_cell BK721.out 0).trans rfl
    have hfs18 := blk_frozen BK721.out 0
    have hns18_0 := NB715_721.out
    have hns18_1 := NB716_721.out
    have hms18_0 := NB721_715.out
    have hms18_1 := NB721_716.out
    have hs19 : w16.cell? ⟨gb721, 1, none⟩ = some (.int .i64 0) := (blk_cell BK721.out 1).trans rfl
    have hfs19 := blk_frozen BK721.out 1
    have hns19_0 := NB715_721.out
    have hns19_1 := NB716_721.out
    have hms19_0 := NB721_715.out
    have hms19_1 := NB721_716.out
    have hs20 : w16.cell? ⟨gb721, 2, none⟩ = some (.slice none 0 0) := (blk_cell BK721.out 2).trans rfl
    have hfs20 := blk_frozen BK721.out 2
    have hns20_0 := NB715_721.out
    have hns20_1 := NB716_721.out
    have hms20_0 := NB721_715.out
    have hms20_1 := NB721_716.out
    refine skip_ (w1 := ?_) (by rfl) rfl ?_ ?_
    rotate_left
    ·go_simp
     rfl
    refine hK.out _ _ ⟨((cell_far (p := ⟨gb721, _, none⟩) NB715_721.out _).trans (((cell_far (p := ⟨gb721, _, none⟩) NB715_721.out _).trans (((cell_far (p := ⟨gb721, _, none⟩) NB715_721.out _).trans (hHeld.1)))))), ((cell_far (p := ⟨gb721, _, none⟩) NB715_721.out _).trans (((cell_far (p := ⟨gb721, _, none⟩) NB715_721.out _).trans (((cell_far (p := ⟨gb721, _, none⟩) NB715_721.out _).trans (hHeld.2.1)))))), ((cell_far (p := ⟨gb721, _, none⟩) NB715_721.out _).trans (((cell_far (p := ⟨gb721, _, none⟩) NB715_721.out _).trans (((cell_far (p := ⟨gb721, _, none⟩) NB715_721.out _).trans (hHeld.2.2))))))⟩ (fun hHeld => ?_)
    clear hK K
    refine done_ (done_of HT_.out (by kernel_rfl)) ?_
    have hnb21 := NB715_721.out
    have hnc21 := NB721_715.out
    have hcz22_0 : w16.cell? ⟨gb715, 0, none⟩ = some (.int .i64 a0_0) := (blk_cell BK715.out 0).trans rfl
    have hcz22_1 : w16.cell? ⟨gb715, 1, none⟩ = some (.int .i64 a0_1) := (blk_cell BK715.out 1).trans rfl
    have hcz22_2 : w16.cell? ⟨gb715, 2, none⟩ = some (.slice A0_2 l0_2.length c0_2) := (blk_cell BK715.out 2).trans rfl
    have hfz22_0 := blk_frozen BK715.out 0
    have hfz22_1 := blk_frozen BK715.out 1
    have hfz22_2 := blk_frozen BK715.out 2
    try go_wp2
    go_loopg [26] k (fun kq v26 w' => ∃ (x26_1 : Int) (x722002_1 : List Int) (u722002 : Value), v26 = .int .i64 x26_1 ∧ Aside0 (raster_Gray.l0 kq l0_2 (l0_2.length : Int) x26_1 a0_0 a0_1 x722002_1 = some (r1, r2, r3, r4)) ∧ Aside0 (kq ≤ k) ∧ Aside0 (Kd.R (Kd.int .u8) 5 w' w.heap.size (fun _ => True) u722002 x722002_1) ∧ Aside0 (w'.heap[gb715]? = some (.cells #[.int .i64 a0_0, .int .i64 a0_1, (.slice A0_2 l0_2.length c0_2)] 24 (0, 0))) ∧ Aside0 (w'.heap[gb716]? = some (.cells #[.int .i64 0, .int .i64 0, (.slice none 0 0)] 58 (0, 0))) ∧ Aside0 (w'.heap[gb721]? = some (.cells #[.int .i64 a0_0, .int .i64 a0_1, u722002] 58 (0, 0))) ∧ Aside0 (Below w.heap.size w w'))
    case atStart => exact ⟨(0), (y718), (.slice Ao17 y718.length co17), (by first | rfl | (simp; done) | (simp [*]; done)), H', ⟨Nat.le_refl _⟩, ⟨by refine rkt ?_; exact Kd.R_mono (Kd.R_far (p := ⟨gb721, 2, none⟩) (Kd.R_far (p := ⟨gb721, 1, none⟩) (Kd.R_far (p := ⟨gb721, 0, none⟩) (Kd.R_types HO720.out BK721.out (by decide)) (fun _ hk => hk.2) (.int .i64 a0_0)) (fun _ hk => hk.2) (.int .i64 a0_1)) (fun _ hk => hk.2) (.slice Ao17 y718.length co17)) (fun _ hk => trivial)⟩, ⟨bky BK715 NB715_721⟩, ⟨bky BK716 NB716_721⟩, ⟨by refine bkt ?_; refine blk_put (cs := #[.int .i64 a0_0, .int .i64 a0_1, .slice none 0 0]) ?_ 2 _ rfl; refine bkt ?_; refine blk_put (cs := #[.int .i64 a0_0, .int .i64 0, .slice none 0 0]) ?_ 1 _ rfl; refine bkt ?_; refine blk_put (cs := #[.int .i64 0, .int .i64 0, .slice none 0 0]) ?_ 0 _ rfl; refine bkt ?_; exact BK721.out⟩, ⟨hb3 HB GE715 GE716 GE721⟩⟩
    case round =>
     clear H'
     try clear c2
     try clear p2
     try clear c3
     try clear c3b0
     try clear c3b1
     try clear c4
     try clear c4b0
     try clear c4b1
     try clear c5
     try clear c5b0
     try clear c5b1
     try clear c8
     try clear c21
     try clear hcz22_0
     try clear hcz22_1
     try clear hcz22_2
     try clear hcz9_0
     try clear hcz9_1
     try clear hcz9_2
     try clear hfz22_0
     try clear hfz22_1
     try clear hfz22_2
     try clear hfz9_0
     try clear hfz9_1
     try clear hfz9_2
     obtain ⟨x26_1, x722002_1, u722002, rfl, HA, HK1, HO_722002, BK715, BK716, BK721, HB⟩ := hrel
     cases gk with
     | zero => exact absurd HA.out (by simp [raster_Gray.l0])
     | succ k1 =>
      have H := HA.out
      clear HA
      simp only [raster_Gray.l0] at H
      by_cases c23 : x26_1 < (l0_2.length : Int)
      ·rw [if_pos c23] at H
       have c23b0 : decide (x26_1 < (l0_2.length : Int)) = true := decide_eq_true c23
       clear c23
       by_cases c24 : 0 ≤ x26_1
       ·rw [if_pos c24] at H
        have c24b0 : decide (0 ≤ x26_1) = true := decide_eq_true c24
        clear c24
        by_cases c25 : x26_1 < (l0_2.length : Int)
        ·rw [if_pos c25] at H
         have c25b0 : decide (x26_1 < (l0_2.length : Int)) = true := decide_eq_true c25
         clear c25
         obtain ⟨bq26, hbq26⟩ : ∃ b_ : Bool, b_ = (rdOf false l0_2 x26_1) := ⟨_, rfl⟩
         replace H : (if bq26 = true then (raster_Gray.l0 k1 l0_2 (l0_2.length : Int) (wrap64 (x26_1 + 1)) a0_0 a0_1 x722002_1) else (if x26_1 < (x722002_1.length : Int) then (raster_Gray.l0 k1 l0_2 (l0_2.length : Int) (wrap64 (x26_1 + 1)) a0_0 a0_1 (x722002_1.set (x26_1 : Int).toNat 255)) else (none))) = some (r1, r2, r3, r4) := by rw [← hbq26] at H; exact H
         have Nbq26 := Aside0.mk hbq26
         clear hbq26
         by_cases c27 : bq26 = true
         ·subst c27
          have H1 : (raster_Gray.l0 k1 l0_2 (l0_2.length : Int) (wrap64 (x26_1 + 1)) a0_0 a0_1 x722002_1) = some (r1, r2, r3, r4) := by rw [if_pos rfl] at H; exact H
          clear H
          have H := H1
          clear H1
          have H' := Aside0.mk H
          clear H
          have p722 : 0 ≤ (x26_1 : Int) := of_decide_eq_true (by first | (with_reducible assumption) | assumption)
          have q722 : x26_1 < (l0_2.length : Int) := of_decide_eq_true (by first | (with_reducible assumption) | assumption)
          obtain ⟨ad722, e722, hx722_0⟩ := Kd.at_bool HR0_2.out x26_1 p722 q722
          (try rw [← Nbq26.out] at hx722_0)
          cases e722
          replace hx722_0 := (HB.out.cell (World.block_lt_of_cell? w _ hx722_0)).trans hx722_0
          replace p722 := eq_true p722
          replace q722 := eq_true q722
          go_wp2
          go_roundg k1
          case measure => have := HK1.out; omega
          case rel => exact ⟨(wrap64 (x26_1 + 1)), (x722002_1), (u722002), (by first | rfl | (simp; done) | (simp [*]; done)), H', ⟨by have := HK1.out; omega⟩, ⟨rkx HO_722002⟩, ⟨bkx BK715⟩, ⟨bkx BK716⟩, ⟨bkx BK721⟩, ⟨hb3 HB GE715 GE716 GE721⟩⟩
         ·replace c27 := Bool.eq_false_iff.mpr c27
          subst c27
          have H1 : (if x26_1 < (x722002_1.length : Int) then (raster_Gray.l0 k1 l0_2 (l0_2.length : Int) (wrap64 (x26_1 + 1)) a0_0 a0_1 (x722002_1.set (x26_1 : Int).toNat 255)) else (none)) = some (r1, r2, r3, r4) := by rw [if_neg (show ¬ (false = true) by decide)] at H; exact H
          clear H
          have H := H1
          clear H1
          by_cases c28 : x26_1 < (x722002_1.length : Int)
          ·rw [if_pos c28] at H
           have c28b0 : decide (x26_1 < (x722002_1.length : Int)) = true := decide_eq_true c28
           clear c28
           obtain ⟨y723, hy723⟩ : ∃ y_ : List Int, y_ = (x722002_1.set (x26_1 : Int).toNat 255) := ⟨_, rfl⟩
           replace H : (raster_Gray.l0 k1 l0_2 (l0_2.length : Int) (wrap64 (x26_1 + 1)) a0_0 a0_1 y723) = some (r1, r2, r3, r4) := by first | (rw [hy723]; with_reducible exact H) | (have H2_ := (Option.bind_some _ _).symm.trans H; rw [hy723]; with_reducible exact H2_) | (have H2_ := (Option.bind_some _ _).symm.trans H; with_reducible exact H2_) | with_reducible exact H | (rw [hy723]; exact H) | exact H
           have Ny723 := Aside0.mk hy723
           clear hy723
           have H' := Aside0.mk H
           clear H
           have p722 : 0 ≤ (x26_1 : Int) := of_decide_eq_true (by first | (with_reducible assumption) | assumption)
           have q722 : x26_1 < (l0_2.length : Int) := of_decide_eq_true (by first | (with_reducible assumption) | assumption)
           obtain ⟨ad722, e722, hx722_0⟩ := Kd.at_bool HR0_2.out x26_1 p722 q722
           (try rw [← Nbq26.out] at hx722_0)
           cases e722
           replace hx722_0 := (HB.out.cell (World.block_lt_of_cell? w _ hx722_0)).trans hx722_0
           replace p722 := eq_true p722
           replace q722 := eq_true q722
           have hnb30 := NB721_715.out
           have hnc30 := NB715_721.out
           have hnb31 := NB721_716.out
           have hnc31 := NB716_721.out
           have hcz32_0 : wr.cell? ⟨gb721, 0, none⟩ = some (.int .i64 a0_0) := (blk_cell BK721.out 0).trans rfl
           have hcz32_1 : wr.cell? ⟨gb721, 1, none⟩ = some (.int .i64 a0_1) := (blk_cell BK721.out 1).trans rfl
           have hcz32_2 : wr.cell? ⟨gb721, 2, none⟩ = some (u722002) := (blk_cell BK721.out 2).trans rfl
           have hfz32_0 := blk_frozen BK721.out 0
           have hfz32_1 := blk_frozen BK721.out 1
           have hfz32_2 := blk_frozen BK721.out 2
           have p29 : 0 ≤ (x26_1 : Int) := of_decide_eq_true (by first | (with_reducible assumption) | assumption)
           have q29 : (x26_1 : Int) < ((x722002_1.length : Int) : Int) := of_decide_eq_true (by first | (with_reducible assumption) | assumption)
           obtain ⟨go29, co29, eo29, gb29, gl29, cl29, HG29⟩ := Kd.R_form HO_722002.out (by omega)
           (first | cases eo29 | (injection eo29 with ea_ en_ ec_; (first | subst ea_ | (injection ea_ with ea_; subst ea_)); subst ec_; clear en_))
           have GB29 := Aside0.mk gb29
           have GG29 := Aside0.mk HG29
           clear gb29 gl29 HG29
           obtain ⟨hx29_0, hf29_0⟩ := Kd.R_celln 0 HO_722002.out (x26_1 : Int) p29 q29
           replace p29 := eq_true p29
           replace q29 := eq_true q29
           have HP33 := Kd.R_putg HO_722002.out (x26_1 : Int) 255
           go_wp2_with (first | ((with_reducible refine gate_store (t := 5) (p := 36) rfl ?_); refine store_event (t := 5) (p := 36) (v := ?vo_w34) (w1 := (wr.setCell ⟨go29, (x26_1 : Int).toNat, none⟩ (.int .u8 255))) ?hg ?ho ?hn ?hr ?_; (case ho => rfl); (case hg => rfl); (case hn => rfl); (case hr => first | (go_simp; done) | (go_simp; rfl)); intro w34 hw; have hg : wr.grownBy w34 (some go29) := (by rw [hw]; exact HP33.2); have hp_ : Kd.R (Kd.int .u8) 5 w34 w.heap.size (fun _ => True) (.slice (some ⟨go29, 0, none⟩) x722002_1.length co29) y723 := (by rw [hw, Ny723.out]; exact HP33.1); clear HP33; have n0_ := Aside0.mk (hp_); have n1_ := Aside0.mk (blk_grown (g := gb715) (o := .cells #[.int .i64 a0_0, .int .i64 a0_1, .slice (some ad722) l0_2.length c0_2] 24 (0, 0)) (bkx BK715) hg (Kd.R_ne HO_722002.out BK715.out (by decide))); have n2_ := Aside0.mk (blk_grown (g := gb716) (o := .cells #[.int .i64 0, .int .i64 0, .slice none 0 0] 58 (0, 0)) (bkx BK716) hg (Kd.R_ne HO_722002.out BK716.out (by decide))); have n3_ := Aside0.mk (blk_grown (g := gb721) (o := .cells #[.int .i64 a0_0, .int .i64 a0_1, .slice (some ⟨go29, 0, none⟩) x722002_1.length co29] 58 (0, 0)) (bkx BK721) hg (Kd.R_ne HO_722002.out BK721.out (by decide))); have n4_ := Aside0.mk ((by rw [hw]; exact below_set (HB.out) GB29.out : Below w.heap.size w w34)); clear HO_722002; clear BK715; clear BK716; clear BK721; clear HB; have HO_722002 := n0_; have BK715 := n1_; have BK716 := n2_; have BK721 := n3_; have HB := n4_; clear n0_ n1_ n2_ n3_ n4_; clear hg hw hp_))
           go_roundg k1
           case measure => have := HK1.out; omega
           case rel => exact ⟨(wrap64 (x26_1 + 1)), (y723), (.slice (some ⟨go29, 0, none⟩) x722002_1.length co29), (by first | rfl | (simp; done) | (simp [*]; done)), H', ⟨by have := HK1.out; omega⟩, ⟨rkx HO_722002⟩, ⟨bkx BK715⟩, ⟨bkx BK716⟩, ⟨bkx BK721⟩, ⟨hb3 HB GE715 GE716 GE721⟩⟩
          ·rw [if_neg c28] at H
           exact absurd H (by simp)
        ·rw [if_neg c25] at H
         exact absurd H (by simp)
       ·rw [if_neg c24] at H
        exact absurd H (by simp)
      ·rw [if_neg c23] at H
       have c23b0 : decide (x26_1 < (l0_2.length : Int)) = false := decide_eq_false c23
       clear c23
       simp only [Option.some.injEq, Prod.mk.injEq] at H
       obtain ⟨rfl, rfl, rfl, rfl⟩ := H
       have hnb35 := NB721_715.out
       have hnc35 := NB715_721.out
       have hnb36 := NB721_716.out
       have hnc36 := NB716_721.out
       have hcz37_0 : wr.cell? ⟨gb721, 0, none⟩ = some (.int .i64 a0_0) := (blk_cell BK721.out 0).trans rfl
       have hcz37_1 : wr.cell? ⟨gb721, 1, none⟩ = some (.int .i64 a0_1) := (blk_cell BK721.out 1).trans rfl
       have hcz37_2 : wr.cell? ⟨gb721, 2, none⟩ = some (u722002) := (blk_cell BK721.out 2).trans rfl
       have hfz37_0 := blk_frozen BK721.out 0
       have hfz37_1 := blk_frozen BK721.out 1
       have hfz37_2 := blk_frozen BK721.out 2
       have hnb38 := NB716_715.out
       have hnc38 := NB715_716.out
       have hcz39_0 : wr.cell? ⟨gb716, 0, none⟩ = some (.int .i64 0) := (blk_cell BK716.out 0).trans rfl
       have hcz39_1 : wr.cell? ⟨gb716, 1, none⟩ = some (.int .i64 0) := (blk_cell BK716.out 1).trans rfl
       have hcz39_2 : wr.cell? ⟨gb716, 2, none⟩ = some (.slice none 0 0) := (blk_cell BK716.out 2).trans rfl
       have hfz39_0 := blk_frozen BK716.out 0
       have hfz39_1 := blk_frozen BK716.out 1
       have hfz39_2 := blk_frozen BK716.out 2
       obtain ⟨Ao40, co40, eo40⟩ := Kd.R_slice HO_722002.out
       subst eo40
       go_wp2
       refine bodyPost_ret (results_ct rfl _ _ gb716 58 #[.int .i64 a0_0, .int .i64 a0_1, .slice Ao40 x722002_1.length co40] (0, 0) _ rfl (by refine bkt ?_; refine blk_put (cs := #[.int .i64 a0_0, .int .i64 a0_1, .slice none 0 0]) ?_ 2 _ rfl; refine bkt ?_; refine blk_put (cs := #[.int .i64 a0_0, .int .i64 0, .slice none 0 0]) ?_ 1 _ rfl; refine bkt ?_; refine blk_put (cs := #[.int .i64 0, .int .i64 0, .slice none 0 0]) ?_ 0 _ rfl; refine bkt ?_; exact BK716.out) Try.underlying58 rfl (by kernel_rfl)) rfl ?_
       exact ⟨_, by first | rfl | (simp [errW_none, errW_some] <;> rfl) | (simp [*, errW_none, errW_some] <;> rfl), by refine rkt ?_; exact Kd.R_mono (Kd.R_far (p := ⟨gb716, 2, none⟩) (Kd.R_far (p := ⟨gb716, 1, none⟩) (Kd.R_far (p := ⟨gb716, 0, none⟩) (Kd.R_types HO_722002.out BK716.out (by decide)) (fun _ hk => hk.2) (.int .i64 a0_0)) (fun _ hk => hk.2) (.int .i64 a0_1)) (fun _ hk => hk.2) (.slice Ao40 x722002_1.length co40)) (fun _ hk => trivial), by repeat (first | (with_reducible first | exact HB.out | apply below_alloc | apply pw_below_drewN | apply below_drew1 | refine below_set ?_ GE715.out | refine below_set ?_ GE716.out | refine below_set ?_ GE721.out) | exact HB.out)⟩
   ·rw [if_neg c5] at H
    exact absurd H (by simp)
  ·rw [if_neg c4] at H
   exact absurd H (by simp)
 ·rw [if_neg c3] at H
  have c3b0 : (t717 == 0) = false := beq_eq_false_iff_ne.mpr c3
  have c3b1 : (t717 != 0) = true := bne_iff_ne.mpr c3
  simp only [Option.some.injEq, Prod.mk.injEq] at H
  obtain ⟨rfl, rfl, rfl, rfl⟩ := H
  go_enter Try.func43, Try.ntmps43
  go_wp2_with (first | ((with_reducible refine gate_dst (N := 1) rfl ?_); refine box_event ?hg (N := 1) ?hd (cs := #[.int .i64 a0_0, .int .i64 a0_1, .slice A0_2 l0_2.length c0_2]) (t := 24) ?hr ?_; (case hd => rfl); (case hg => rfl); (case hr => first | (go_simp; done) | (go_simp; rfl)); intro gb715 hg w41 hbox hb; have n0_ := Aside0.mk (below_step (hb0 HB) hb); have n1_ := Aside0.mk (hbox); have n2_ := Aside0.mk ((by rw [hg]; exact (below_size (hb0 HB)) : w.heap.size ≤ gb715)); have n3_ := Aside0.mk ((by rw [hg]; exact (below_size (hb0 HB)) : w.heap.size ≤ gb715)); clear HB; have HB := n0_; have BK715 := n1_; have GW715 := n2_; have GE715 := n3_; clear n0_ n1_ n2_ n3_; clear hb hbox hg) | ((with_reducible refine gate_dst (N := 2) rfl ?_); refine box_event ?hg (N := 2) ?hd (cs := #[.int .i64 0, .int .i64 0, .slice none 0 0]) (t := 58) ?hr ?_; (case hd => rfl); (case hg => rfl); (case hr => first | (go_simp; done) | (go_simp; rfl)); intro gb716 hg w42 hbox hb; have n0_ := Aside0.mk (blk_below (bkx BK715) hb); have n1_ := Aside0.mk (below_step (hb1 HB GE715) hb); have n2_ := Aside0.mk (hbox); have n3_ := Aside0.mk ((by rw [hg]; exact (below_size (hb1 HB GE715)) : w.heap.size ≤ gb716)); have n4_ := Aside0.mk ((by rw [hg]; exact (below_size (hb1 HB GE715)) : w.heap.size ≤ gb716)); have n5_ := Aside0.mk (nel hg BK715 : gb715 ≠ gb716); have n6_ := Aside0.mk (neg hg BK715 : gb716 ≠ gb715); clear BK715; clear HB; have BK715 := n0_; have HB := n1_; have BK716 := n2_; have GW716 := n3_; have GE716 := n4_; have NB715_716 := n5_; have NB716_715 := n6_; clear n0_ n1_ n2_ n3_ n4_ n5_ n6_; clear hb hbox hg; have hnb43 := NB715_716.out; have hnc43 := NB716_715.out; have hcz44_0 : w42.cell? ⟨gb715, 0, none⟩ = some (.int .i64 a0_0) := (blk_cell BK715.out 0).trans rfl; have hcz44_1 : w42.cell? ⟨gb715, 1, none⟩ = some (.int .i64 a0_1) := (blk_cell BK715.out 1).trans rfl; have hcz44_2 : w42.cell? ⟨gb715, 2, none⟩ = some (.slice A0_2 l0_2.length c0_2) := (blk_cell BK715.out 2).trans rfl; have hfz44_0 := blk_frozen BK715.out 0; have hfz44_1 := blk_frozen BK715.out 1; have hfz44_2 := blk_frozen BK715.out 2) | ((with_reducible refine gate_callee (f := 23) rfl ?_); refine goesL_ (some 9) rfl rfl Try.func23 (by kernel_rfl) rfl #[.agg #[.int .i64 a0_0, .int .i64 a0_1, .slice A0_2 l0_2.length c0_2]] rfl mapx ?_; (with_reducible refine (raster_Check.calls a0_0 a0_1 _ _ l0_2 t717 _ ?side1 ?side2 A2.out).mono ?_); (case side1 => repeat (first | exact (Kd.C_below HR0_2.out HB.out) | (with_reducible refine Kd.C_alloc ?_ _) | (with_reducible refine Kd.C_drewN ?_ _) | (with_reducible refine Kd.C_drew ?_))); (case side2 => exact HC0_2.out); rintro e w45 ⟨rfl, hb⟩; refine ⟨_, rfl, ?_⟩; have n0_ := Aside0.mk (blk_below (bkx BK715) hb); have n1_ := Aside0.mk (blk_below (bkx BK716) hb); have n2_ := Aside0.mk (below_step (hb2 HB GE715 GE716) hb); clear BK715; clear BK716; clear HB; have BK715 := n0_; have BK716 := n1_; have HB := n2_; clear n0_ n1_ n2_; (try clear hb); (try clear hb2); (try clear hk); (try clear hi); have hcz46_0 : w45.cell? ⟨gb716, 0, none⟩ = some (.int .i64 0) := (blk_cell BK716.out 0).trans rfl; have hcz46_1 : w45.cell? ⟨gb716, 1, none⟩ = some (.int .i64 0) := (blk_cell BK716.out 1).trans rfl; have hcz46_2 : w45.cell? ⟨gb716, 2, none⟩ = some (.slice none 0 0) := (blk_cell BK716.out 2).trans rfl; have hfz46_0 := blk_frozen BK716.out 0; have hfz46_1 := blk_frozen BK716.out 1; have hfz46_2 := blk_frozen BK716.out 2))
  refine bodyPost_ret (results_ct rfl _ _ gb716 58 #[.int .i64 0, .int .i64 0, .slice none 0 0] (0, 0) _ rfl (by refine bkt ?_; refine blk_put (cs := #[.int .i64 0, .int .i64 0, .slice none 0 0]) ?_ 2 _ rfl; refine bkt ?_; refine blk_put (cs := #[.int .i64 0, .int .i64 0, .slice none 0 0]) ?_ 1 _ rfl; refine bkt ?_; refine blk_put (cs := #[.int .i64 0, .int .i64 0, .slice none 0 0]) ?_ 0 _ rfl; refine bkt ?_; exact BK716.out) Try.underlying58 rfl (by kernel_rfl)) rfl ?_
  exact ⟨_, by first | rfl | (simp [errW_none, errW_some] <;> rfl) | (simp [*, errW_none, errW_some] <;> rfl), by first | exact Kd.R_nil _ _ _ _ _ | exact Kd.N_nil _ _ _ _ _ | exact Kd.V_nil _ _ _ _ _ | exact Kd.Q_nil _ _ _ _ _ | exact Kd.S_nil _ _ _ _ _, by repeat (first | (with_reducible first | exact HB.out | apply below_alloc | apply pw_below_drewN | apply below_drew1 | refine below_set ?_ GE715.out | refine below_set ?_ GE716.out) | exact HB.out)⟩

end Go.Proofs.Ytcmcmoaikabfoaa.PR
