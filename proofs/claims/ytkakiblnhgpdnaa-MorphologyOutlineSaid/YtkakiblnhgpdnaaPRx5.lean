-- Written by this session's own program (myprint.py).
import Derived.Test.YtkakiblnhgpdnaaPRx0
namespace Go.Proofs.Ytkakiblnhgpdnaa.PR
open Go.RowKit Go.Proofs.YtkakiblnhgpdnaaW.PrintWords Go.Proofs.YtkakiblnhgpdnaaW.PrintLast Go.Proofs.YtkakiblnhgpdnaaW.PrintMore Go.Proofs.Ytkakiblnhgpdnaa.XWords Go.Proofs.Ytkakiblnhgpdnaa.XShort Go.Proofs.Ytkakiblnhgpdnaa.XFn
attribute [local go_sem] max2_int min2_int max_two min_two max_three min_three max_four min_four   -- for this text's walks alone
set_option linter.unusedVariables false
set_option linter.unusedSimpArgs false

/-! ### morphology_plane_bitmap: function 39 -/
def morphology_plane_bitmap.l0 : Nat → Int → Int → Int → Int → Int → Int → List Bool → Int → Int → List Bool → Option (Int × Int × List Bool)
  | 0, _, _, _, _, _, _, _, _, _, _ => none
  | k + 1, x20, x21, x180000, x180001, x180002, x180003, x180004, x182000, x182001, x182002 => if x21 < x20 then (if 0 ≤ (wrap64 ((wrap64 ((wrap64 (x21 + x180003)) * x180000)) + x180002)) then (if (wrap64 ((wrap64 ((wrap64 (x21 + x180003)) * x180000)) + x180002)) ≤ (wrap64 ((wrap64 ((wrap64 ((wrap64 (x21 + x180003)) * x180000)) + x180002)) + x182000)) then (if (wrap64 ((wrap64 ((wrap64 ((wrap64 (x21 + x180003)) * x180000)) + x180002)) + x182000)) ≤ (x180004.length : Int) then (if x182002.length + ((x180004.take ((wrap64 ((wrap64 ((wrap64 ((wrap64 (x21 + x180003)) * x180000)) + x180002)) + x182000)) : Int).toNat).drop ((wrap64 ((wrap64 ((wrap64 (x21 + x180003)) * x180000)) + x180002)) : Int).toNat).length < 140737488355328 then (morphology_plane_bitmap.l0 k x20 (wrap64 (x21 + 1)) x180000 x180001 x180002 x180003 x180004 x182000 x182001 (x182002 ++ ((x180004.take ((wrap64 ((wrap64 ((wrap64 ((wrap64 (x21 + x180003)) * x180000)) + x180002)) + x182000)) : Int).toNat).drop ((wrap64 ((wrap64 ((wrap64 (x21 + x180003)) * x180000)) + x180002)) : Int).toNat))) else (none)) else (none)) else (none)) else (none)) else (some (x182000, x182001, x182002))
def morphology_plane_bitmap.f (k : Nat) (a0_0 : Int) (a0_1 : Int) (a0_2 : Int) (a0_3 : Int) (l0_4 : List Bool) : Option (Int × Int × List Bool) := morphology_plane_bitmap.l0 k (wrap64 (a0_1 - (wrap64 (2 * a0_3)))) 0 a0_0 a0_1 a0_2 a0_3 l0_4 (wrap64 (a0_0 - (wrap64 (2 * a0_2)))) (wrap64 (a0_1 - (wrap64 (2 * a0_3)))) ([] : List Bool)
theorem morphology_plane_bitmap.mono_l : ∀ k, (∀ y0 y1 y2 y3 y4 y5 y6 y7 y8 y9, LeO (morphology_plane_bitmap.l0 k y0 y1 y2 y3 y4 y5 y6 y7 y8 y9) (morphology_plane_bitmap.l0 (k + 1) y0 y1 y2 y3 y4 y5 y6 y7 y8 y9))
  | 0 => fun _ _ _ _ _ _ _ _ _ _ r h => by simp [morphology_plane_bitmap.l0] at h
  | k + 1 => by
    have ih0 := morphology_plane_bitmap.mono_l k
    · intro y0 y1 y2 y3 y4 y5 y6 y7 y8 y9
      unfold morphology_plane_bitmap.l0
      repeat' first
      | (with_reducible exact ih0 _ _ _ _ _ _ _ _ _ _)
      | (with_reducible exact LeO.refl _)
      | (with_reducible exact LeO.none _)
      | (with_reducible refine LeO.ite ?_ ?_)
      | (with_reducible refine LeO.bind ?_ (fun _ => ?_))
      | exact ih0 _ _ _ _ _ _ _ _ _ _
      | exact LeO.none _
      | refine LeO.ite ?_ ?_
      | refine LeO.bind ?_ (fun _ => ?_)
theorem morphology_plane_bitmap.mono : ∀ a0 a1 a2 a3 a4 k, LeO (morphology_plane_bitmap.f k a0 a1 a2 a3 a4) (morphology_plane_bitmap.f (k + 1) a0 a1 a2 a3 a4) := by
  intro a0 a1 a2 a3 a4 k
  have ih0 := morphology_plane_bitmap.mono_l k
  unfold morphology_plane_bitmap.f
  repeat' first
      | (with_reducible exact ih0 _ _ _ _ _ _ _ _ _ _)
      | (with_reducible exact LeO.refl _)
      | (with_reducible exact LeO.none _)
      | (with_reducible refine LeO.ite ?_ ?_)
      | (with_reducible refine LeO.bind ?_ (fun _ => ?_))
      | exact ih0 _ _ _ _ _ _ _ _ _ _
      | exact LeO.none _
      | refine LeO.ite ?_ ?_
      | refine LeO.bind ?_ (fun _ => ?_)
def morphology_plane_bitmap.T6 : Bool × List (List Nat × List Nat) := (true, [([], []), ([0], [0]), ([], []), ([2], [2]), ([], []), ([], []), ([], []), ([6], [6]), ([5, 7], [5, 7]), ([3, 4, 8], [3, 4, 8]), ([1, 9], [1, 9]), ([0, 1, 2, 3, 4, 5, 6, 7, 8, 9, 10], []), ([11, 10, 10, 0, 1, 2, 3, 4, 5, 6, 7, 8, 9, 10], [10, 11])])
def morphology_plane_bitmap.B6 : List Nat := [0, 1, 0, 4, 0, 0, 0, 64, 224, 508, 1023, 2047, 4095]
theorem morphology_plane_bitmap.tab6 : rtab .any (opsOf Try.f39 6) = morphology_plane_bitmap.T6 := by kernel_rfl
theorem morphology_plane_bitmap.bits6 : waitsOk morphology_plane_bitmap.T6.2 morphology_plane_bitmap.B6 = true := by kernel_rfl
set_option maxHeartbeats 8000000 in
set_option maxRecDepth 100000 in
theorem morphology_plane_bitmap.calls (k : Nat) (a0_0 : Int) (a0_1 : Int) (a0_2 : Int) (a0_3 : Int) (A0_4 : Option Addr) (c0_4 : Nat) (l0_4 : List Bool) (r1 : Int) (r2 : Int) (r3 : List Bool) (w : World) (hr0_4 : Kd.C Kd.bool w A0_4 l0_4.length l0_4) (hc0_4 : l0_4.length ≤ c0_4) (h : morphology_plane_bitmap.f k a0_0 a0_1 a0_2 a0_3 l0_4 = some (r1, r2, r3)) :
    Calls Try.prog 39 #[.agg #[.int .i64 a0_0, .int .i64 a0_1, .int .i64 a0_2, .int .i64 a0_3, .slice A0_4 l0_4.length c0_4]] w fun e w' => ∃ v2_ : Value, e = .returned (.agg #[.int .i64 r1, .int .i64 r2, v2_]) ∧ Kd.R Kd.bool 4 w' w.heap.size (fun _ => True) v2_ r3 ∧ Below w.heap.size w w' := by
  have hu50 := Try.underlying50
  have hu24 := Try.underlying24
  have HR0_4 := Aside0.mk hr0_4
  have HC0_4 := Aside0.mk hc0_4
  clear hr0_4 hc0_4
  have HB := Aside0.mk (Below.refl w.heap.size w)
  have H : (morphology_plane_bitmap.l0 k (wrap64 (a0_1 - (wrap64 (2 * a0_3)))) 0 a0_0 a0_1 a0_2 a0_3 l0_4 (wrap64 (a0_0 - (wrap64 (2 * a0_2)))) (wrap64 (a0_1 - (wrap64 (2 * a0_3)))) ([] : List Bool)) = some (r1, r2, r3) := h
  clear h
  have H' := Aside0.mk H
  clear H
  go_enter Try.func39, Try.ntmps39
  go_wp2_with (first | ((with_reducible refine gate_dst (N := 1) rfl ?_); refine box_event ?hg (N := 1) ?hd (cs := #[.int .i64 a0_0, .int .i64 a0_1, .int .i64 a0_2, .int .i64 a0_3, .slice A0_4 l0_4.length c0_4]) (t := 50) ?hr ?_; (case hd => rfl); (case hg => rfl); (case hr => first | (go_simp; done) | (go_simp; rfl)); intro gb179 hg w2 hbox hb; have n0_ := Aside0.mk (below_step (hb0 HB) hb); have n1_ := Aside0.mk (hbox); have n2_ := Aside0.mk ((by rw [hg]; exact (below_size (hb0 HB)) : w.heap.size ≤ gb179)); have n3_ := Aside0.mk ((by rw [hg]; exact (below_size (hb0 HB)) : w.heap.size ≤ gb179)); clear HB; have HB := n0_; have BK179 := n1_; have GW179 := n2_; have GE179 := n3_; clear n0_ n1_ n2_ n3_; clear hb hbox hg) | ((with_reducible refine gate_dst (N := 2) rfl ?_); refine box_event ?hg (N := 2) ?hd (cs := #[.int .i64 0, .int .i64 0, .slice none 0 0]) (t := 24) ?hr ?_; (case hd => rfl); (case hg => rfl); (case hr => first | (go_simp; done) | (go_simp; rfl)); intro gb180 hg w3 hbox hb; have n0_ := Aside0.mk (blk_below (bkx BK179) hb); have n1_ := Aside0.mk (below_step (hb1 HB GE179) hb); have n2_ := Aside0.mk (hbox); have n3_ := Aside0.mk ((by rw [hg]; exact (below_size (hb1 HB GE179)) : w.heap.size ≤ gb180)); have n4_ := Aside0.mk ((by rw [hg]; exact (below_size (hb1 HB GE179)) : w.heap.size ≤ gb180)); have n5_ := Aside0.mk (nel hg BK179 : gb179 ≠ gb180); have n6_ := Aside0.mk (neg hg BK179 : gb180 ≠ gb179); clear BK179; clear HB; have BK179 := n0_; have HB := n1_; have BK180 := n2_; have GW180 := n3_; have GE180 := n4_; have NB179_180 := n5_; have NB180_179 := n6_; clear n0_ n1_ n2_ n3_ n4_ n5_ n6_; clear hb hbox hg; have hnb4 := NB179_180.out; have hnc4 := NB180_179.out; have hcz5_0 : w3.cell? ⟨gb179, 0, none⟩ = some (.int .i64 a0_0) := (blk_cell BK179.out 0).trans rfl; have hcz5_1 : w3.cell? ⟨gb179, 1, none⟩ = some (.int .i64 a0_1) := (blk_cell BK179.out 1).trans rfl; have hcz5_2 : w3.cell? ⟨gb179, 2, none⟩ = some (.int .i64 a0_2) := (blk_cell BK179.out 2).trans rfl; have hcz5_3 : w3.cell? ⟨gb179, 3, none⟩ = some (.int .i64 a0_3) := (blk_cell BK179.out 3).trans rfl; have hcz5_4 : w3.cell? ⟨gb179, 4, none⟩ = some (.slice A0_4 l0_4.length c0_4) := (blk_cell BK179.out 4).trans rfl; have hfz5_0 := blk_frozen BK179.out 0; have hfz5_1 := blk_frozen BK179.out 1; have hfz5_2 := blk_frozen BK179.out 2; have hfz5_3 := blk_frozen BK179.out 3; have hfz5_4 := blk_frozen BK179.out 4) | ((with_reducible refine gate_dst (N := 3) rfl ?_); refine box_event ?hg (N := 3) ?hd (cs := #[.int .i64 0, .int .i64 0, .slice none 0 0]) (t := 24) ?hr ?_; (case hd => rfl); (case hg => rfl); (case hr => first | (go_simp; done) | (go_simp; rfl)); intro gb181 hg w6 hbox hb; have n0_ := Aside0.mk (blk_below (bkx BK179) hb); have n1_ := Aside0.mk (blk_below (bkx BK180) hb); have n2_ := Aside0.mk (below_step (hb2 HB GE179 GE180) hb); have n3_ := Aside0.mk (hbox); have n4_ := Aside0.mk ((by rw [hg]; exact (below_size (hb2 HB GE179 GE180)) : w.heap.size ≤ gb181)); have n5_ := Aside0.mk ((by rw [hg]; exact (below_size (hb2 HB GE179 GE180)) : w.heap.size ≤ gb181)); have n6_ := Aside0.mk (nel hg BK179 : gb179 ≠ gb181); have n7_ := Aside0.mk (neg hg BK179 : gb181 ≠ gb179); have n8_ := Aside0.mk (nel hg BK180 : gb180 ≠ gb181); have n9_ := Aside0.mk (neg hg BK180 : gb181 ≠ gb180); clear BK179; clear BK180; clear HB; have BK179 := n0_; have BK180 := n1_; have HB := n2_; have BK181 := n3_; have GW181 := n4_; have GE181 := n5_; have NB179_181 := n6_; have NB181_179 := n7_; have NB180_181 := n8_; have NB181_180 := n9_; clear n0_ n1_ n2_ n3_ n4_ n5_ n6_ n7_ n8_ n9_; clear hb hbox hg; have hnb7 := NB181_179.out; have hnc7 := NB179_181.out; have hnb8 := NB181_180.out; have hnc8 := NB180_181.out; have hcz9_0 : w6.cell? ⟨gb181, 0, none⟩ = some (.int .i64 0) := (blk_cell BK181.out 0).trans rfl; have hcz9_1 : w6.cell? ⟨gb181, 1, none⟩ = some (.int .i64 0) := (blk_cell BK181.out 1).trans rfl; have hcz9_2 : w6.cell? ⟨gb181, 2, none⟩ = some (.slice none 0 0) := (blk_cell BK181.out 2).trans rfl; have hfz9_0 := blk_frozen BK181.out 0; have hfz9_1 := blk_frozen BK181.out 1; have hfz9_2 := blk_frozen BK181.out 2))
  go_loopg [21] k (fun kq v21 w' => ∃ (x21_1 : Int) (x182002_1 : List Bool) (u182002 : Value), v21 = .int .i64 x21_1 ∧ Aside0 (morphology_plane_bitmap.l0 kq (wrap64 (a0_1 - (wrap64 (2 * a0_3)))) x21_1 a0_0 a0_1 a0_2 a0_3 l0_4 (wrap64 (a0_0 - (wrap64 (2 * a0_2)))) (wrap64 (a0_1 - (wrap64 (2 * a0_3)))) x182002_1 = some (r1, r2, r3)) ∧ Aside0 (kq ≤ k) ∧ Aside0 (Kd.R Kd.bool 4 w' w.heap.size (fun _ => True) u182002 x182002_1) ∧ Aside0 (w'.heap[gb179]? = some (.cells #[.int .i64 a0_0, .int .i64 a0_1, .int .i64 a0_2, .int .i64 a0_3, (.slice A0_4 l0_4.length c0_4)] 50 (0, 0))) ∧ Aside0 (w'.heap[gb180]? = some (.cells #[.int .i64 0, .int .i64 0, (.slice none 0 0)] 24 (0, 0))) ∧ Aside0 (w'.heap[gb181]? = some (.cells #[.int .i64 (wrap64 (a0_0 - (wrap64 (2 * a0_2)))), .int .i64 (wrap64 (a0_1 - (wrap64 (2 * a0_3)))), u182002] 24 (0, 0))) ∧ Aside0 (Below w.heap.size w w'))
  case atStart => exact ⟨(0), (([] : List Bool)), (.slice none 0 0), (by first | rfl | (simp; done) | (simp [*]; done)), H', ⟨Nat.le_refl _⟩, ⟨by first | exact Kd.R_nil _ _ _ _ _ | exact Kd.N_nil _ _ _ _ _ | exact Kd.V_nil _ _ _ _ _ | exact Kd.Q_nil _ _ _ _ _ | exact Kd.S_nil _ _ _ _ _⟩, ⟨bky BK179 NB179_181⟩, ⟨bky BK180 NB180_181⟩, ⟨by refine bkt ?_; refine blk_put (cs := #[.int .i64 (wrap64 (a0_0 - (wrap64 (2 * a0_2)))), .int .i64 (wrap64 (a0_1 - (wrap64 (2 * a0_3)))), .slice none 0 0]) ?_ 2 _ rfl; refine bkt ?_; refine blk_put (cs := #[.int .i64 (wrap64 (a0_0 - (wrap64 (2 * a0_2)))), .int .i64 0, .slice none 0 0]) ?_ 1 _ rfl; refine bkt ?_; refine blk_put (cs := #[.int .i64 0, .int .i64 0, .slice none 0 0]) ?_ 0 _ rfl; refine bkt ?_; exact BK181.out⟩, ⟨hb3 HB GE179 GE180 GE181⟩⟩
  case round =>
    clear H'
    try clear p2
    try clear c3
    try clear c4
    try clear p6
    try clear c7
    try clear c8
    try clear hcz5_0
    try clear hcz5_1
    try clear hcz5_2
    try clear hcz5_3
    try clear hcz5_4
    try clear hcz9_0
    try clear hcz9_1
    try clear hcz9_2
    try clear hfz5_0
    try clear hfz5_1
    try clear hfz5_2
    try clear hfz5_3
    try clear hfz5_4
    try clear hfz9_0
    try clear hfz9_1
    try clear hfz9_2
    obtain ⟨x21_1, x182002_1, u182002, rfl, HA, HK1, HO_182002, BK179, BK180, BK181, HB⟩ := hrel
    cases gk with
    | zero => exact absurd HA.out (by simp [morphology_plane_bitmap.l0])
    | succ k1 =>
      have H := HA.out
      clear HA
      simp only [morphology_plane_bitmap.l0] at H
      by_cases c10 : x21_1 < (wrap64 (a0_1 - (wrap64 (2 * a0_3))))
      · rw [if_pos c10] at H
        have c10b0 : decide (x21_1 < (wrap64 (a0_1 - (wrap64 (2 * a0_3))))) = true := decide_eq_true c10
        clear c10
        obtain ⟨ji11, hji11⟩ : ∃ j_ : Int, (wrap64 ((wrap64 ((wrap64 (x21_1 + a0_3)) * a0_0)) + a0_2)) = j_ := ⟨_, rfl⟩
        replace H : (if 0 ≤ (ji11) then (if (ji11) ≤ (wrap64 ((ji11) + (wrap64 (a0_0 - (wrap64 (2 * a0_2)))))) then (if (wrap64 ((ji11) + (wrap64 (a0_0 - (wrap64 (2 * a0_2)))))) ≤ (l0_4.length : Int) then (if x182002_1.length + ((l0_4.take ((wrap64 ((ji11) + (wrap64 (a0_0 - (wrap64 (2 * a0_2)))))) : Int).toNat).drop ((ji11) : Int).toNat).length < 140737488355328 then (morphology_plane_bitmap.l0 k1 (wrap64 (a0_1 - (wrap64 (2 * a0_3)))) (wrap64 (x21_1 + 1)) a0_0 a0_1 a0_2 a0_3 l0_4 (wrap64 (a0_0 - (wrap64 (2 * a0_2)))) (wrap64 (a0_1 - (wrap64 (2 * a0_3)))) (x182002_1 ++ ((l0_4.take ((wrap64 ((ji11) + (wrap64 (a0_0 - (wrap64 (2 * a0_2)))))) : Int).toNat).drop ((ji11) : Int).toNat))) else (none)) else (none)) else (none)) else (none)) = some (r1, r2, r3) := by first | (rw [hji11] at H; exact H) | (simp only [hji11] at H ⊢; exact H)
        have hji11w : (IntKind.i64.wrap ((wrap64 ((wrap64 (x21_1 + a0_3)) * a0_0)) + a0_2)) = ji11 := (i64_w _).trans hji11
        by_cases c12 : 0 ≤ (ji11)
        · rw [if_pos c12] at H
          have c12b0 := eq_true c12
          have c12b1 : decide (0 ≤ (ji11)) = true := decide_eq_true c12
          clear c12
          by_cases c13 : (ji11) ≤ (wrap64 ((ji11) + (wrap64 (a0_0 - (wrap64 (2 * a0_2))))))
          · rw [if_pos c13] at H
            have c13b0 := eq_true c13
            have c13b1 : decide ((ji11) ≤ (wrap64 ((ji11) + (wrap64 (a0_0 - (wrap64 (2 * a0_2))))))) = true := decide_eq_true c13
            by_cases c14 : (wrap64 ((ji11) + (wrap64 (a0_0 - (wrap64 (2 * a0_2)))))) ≤ (l0_4.length : Int)
            · rw [if_pos c14] at H
              have c14b0 := eq_true c14
              have c14b1 : decide ((wrap64 ((ji11) + (wrap64 (a0_0 - (wrap64 (2 * a0_2)))))) ≤ (l0_4.length : Int)) = true := decide_eq_true c14
              by_cases c15 : x182002_1.length + ((l0_4.take ((wrap64 ((ji11) + (wrap64 (a0_0 - (wrap64 (2 * a0_2)))))) : Int).toNat).drop ((ji11) : Int).toNat).length < 140737488355328
              · rw [if_pos c15] at H
                have LMc15 := Aside0.mk c15
                clear c15
                obtain ⟨y183, hy183⟩ : ∃ y_ : List Bool, y_ = (x182002_1 ++ ((l0_4.take ((wrap64 ((ji11) + (wrap64 (a0_0 - (wrap64 (2 * a0_2)))))) : Int).toNat).drop ((ji11) : Int).toNat)) := ⟨_, rfl⟩
                replace H : (morphology_plane_bitmap.l0 k1 (wrap64 (a0_1 - (wrap64 (2 * a0_3)))) (wrap64 (x21_1 + 1)) a0_0 a0_1 a0_2 a0_3 l0_4 (wrap64 (a0_0 - (wrap64 (2 * a0_2)))) (wrap64 (a0_1 - (wrap64 (2 * a0_3)))) y183) = some (r1, r2, r3) := by first | (rw [hy183]; with_reducible exact H) | (have H2_ := (Option.bind_some _ _).symm.trans H; rw [hy183]; with_reducible exact H2_) | (have H2_ := (Option.bind_some _ _).symm.trans H; with_reducible exact H2_) | with_reducible exact H | (rw [hy183]; exact H) | exact H
                have Ny183 := Aside0.mk hy183
                clear hy183
                have H' := Aside0.mk H
                clear H
                have hnb16 := NB179_180.out
                have hnc16 := NB180_179.out
                have hnb17 := NB179_181.out
                have hnc17 := NB181_179.out
                have hcz18_0 : wr.cell? ⟨gb179, 0, none⟩ = some (.int .i64 a0_0) := (blk_cell BK179.out 0).trans rfl
                have hcz18_1 : wr.cell? ⟨gb179, 1, none⟩ = some (.int .i64 a0_1) := (blk_cell BK179.out 1).trans rfl
                have hcz18_2 : wr.cell? ⟨gb179, 2, none⟩ = some (.int .i64 a0_2) := (blk_cell BK179.out 2).trans rfl
                have hcz18_3 : wr.cell? ⟨gb179, 3, none⟩ = some (.int .i64 a0_3) := (blk_cell BK179.out 3).trans rfl
                have hcz18_4 : wr.cell? ⟨gb179, 4, none⟩ = some (.slice A0_4 l0_4.length c0_4) := (blk_cell BK179.out 4).trans rfl
                have hfz18_0 := blk_frozen BK179.out 0
                have hfz18_1 := blk_frozen BK179.out 1
                have hfz18_2 := blk_frozen BK179.out 2
                have hfz18_3 := blk_frozen BK179.out 3
                have hfz18_4 := blk_frozen BK179.out 4
                try go_wp2
                have n0_ := Aside0.mk (Kd.R_drew HO_182002.out)
                have n1_ := Aside0.mk (blk_drew BK179.out)
                have n2_ := Aside0.mk (blk_drew BK180.out)
                have n3_ := Aside0.mk (blk_drew BK181.out)
                have n4_ := Aside0.mk (below_drew1 HB.out)
                clear HO_182002
                clear BK179
                clear BK180
                clear BK181
                clear HB
                have HO_182002 := n0_
                have BK179 := n1_
                have BK180 := n2_
                have BK181 := n3_
                have HB := n4_
                clear n0_ n1_ n2_ n3_ n4_
                obtain ⟨i020, hi020, _, hsz20, _⟩ := info_parts info4
                obtain ⟨A20, hcut20, hA20, hC20⟩ := print_mid_of (P := Try.prog) Value.bool false 22 4 .i64 .i64 Try.underlying22 hi020 hsz20 A0_4 c0_4 l0_4 (ji11) (wrap64 ((ji11) + (wrap64 (a0_0 - (wrap64 (2 * a0_2)))))) (of_decide_eq_true (by first | (with_reducible assumption) | assumption)) (by first | omega | exact of_decide_eq_true (by first | (with_reducible assumption) | assumption)) (of_decide_eq_true (by first | (with_reducible assumption) | assumption)) HC0_4.out
                have HR182 := Aside0.mk (Kd.C_of_reads (h1 := fun _ => rfl) (hA20 _ (Kd.reads_of_C HR0_4.out)))
                have HC182 := Aside0.mk hC20
                clear hA20 hC20 hi020 hsz20
                refine start_ (n := 13) (S := fun w' => w'.cell? ⟨gb181, 0, none⟩ = some (.int .i64 (wrap64 (a0_0 - (wrap64 (2 * a0_2))))) ∧ w'.cell? ⟨gb181, 1, none⟩ = some (.int .i64 (wrap64 (a0_1 - (wrap64 (2 * a0_3))))) ∧ w'.cell? ⟨gb181, 2, none⟩ = some (u182002) ∧ w'.cell? ⟨gb179, 0, none⟩ = some (.int .i64 a0_0) ∧ w'.cell? ⟨gb179, 1, none⟩ = some (.int .i64 a0_1) ∧ w'.cell? ⟨gb179, 2, none⟩ = some (.int .i64 a0_2) ∧ w'.cell? ⟨gb179, 3, none⟩ = some (.int .i64 a0_3) ∧ w'.cell? ⟨gb179, 4, none⟩ = some (.slice A0_4 l0_4.length c0_4)) (ds := [12]) (bA 13 0) (by kernel_rfl) rfl rfl ⟨(blk_cell BK181.out 0).trans rfl, (blk_cell BK181.out 1).trans rfl, (blk_cell BK181.out 2).trans rfl, (blk_cell BK179.out 0).trans rfl, (blk_cell BK179.out 1).trans rfl, (blk_cell BK179.out 2).trans rfl, (blk_cell BK179.out 3).trans rfl, (blk_cell BK179.out 4).trans rfl⟩ (fun hHeld => ?_); refine with_tabW morphology_plane_bitmap.tab6 morphology_plane_bitmap.bits6 (fun HT_ HW_ => ?_)
                generalize wr.drew = w19 at HO_182002 BK179 BK180 BK181 HB HR182 hHeld ⊢
                refine pt HT_ 0 34 ?_
                refine pt HT_ 2 36 ?_
                refine pt HT_ 4 38 ?_
                refine pt HT_ 5 39 ?_
                refine pt HT_ 6 40 ?_
                refine tk HT_ HW_ hHeld 1 35 ?_
                refine tk HT_ HW_ hHeld 3 37 ?_
                refine tk HT_ HW_ hHeld 7 41 ?_
                refine pt HT_ 8 42 ?_
                refine pt HT_ 9 43 ?_
                refine one_ (i := 10) (N := some 44) (bA 13 2047) rfl rfl (one_of HT_.out (by kernel_rfl)) (by decide) (fun K hK => ?_)
                refine Kd.R_append_rows_step Kd.bool (w0 := w) w.heap.size (by rfl) (.tmp 35) (.tmp 43) 22 4 (.bool false) 1 rfl Try.underlying22 info4 rfl (by decide) (by omega) u182002 x182002_1 ((l0_4.take ((wrap64 ((ji11) + (wrap64 (a0_0 - (wrap64 (2 * a0_2)))))) : Int).toNat).drop ((ji11) : Int).toNat) _ _ _ (fun _ => True) (fun _ => False) rfl rfl ?aO ?aR (fun _ _ h => h) (fun _ h => h.elim) ?aF ?aB ?aS ?aL ?_
                (case aR => first | (rw [← show ((l0_4.take ((wrap64 ((ji11) + (wrap64 (a0_0 - (wrap64 (2 * a0_2)))))) : Int).toNat).drop ((ji11) : Int).toNat).length = ((wrap64 ((ji11) + (wrap64 (a0_0 - (wrap64 (2 * a0_2)))))).toNat - (ji11).toNat) from (by rw [List.length_drop, List.length_take]; have h_ : ((wrap64 ((ji11) + (wrap64 (a0_0 - (wrap64 (2 * a0_2)))))) : Int) ≤ (l0_4.length : Int) := of_decide_eq_true (by first | (with_reducible assumption) | assumption); omega)]; repeat (first | exact (Kd.C_below HR182.out HB.out) | (with_reducible refine Kd.C_alloc ?_ _) | (with_reducible refine Kd.C_drewN ?_ _) | (with_reducible refine Kd.C_drew ?_))) | (repeat (first | exact (Kd.C_below HR182.out HB.out) | (with_reducible refine Kd.C_alloc ?_ _) | (with_reducible refine Kd.C_drewN ?_ _) | (with_reducible refine Kd.C_drew ?_))))
                (case aB => exact (hb3 HB GE179 GE180 GE181))
                (case aF => exact (fun _ _ => trivial))
                (case aO => exact (rkx HO_182002))
                (case aS => exact (below_size (hb3 HB GE179 GE180 GE181)))
                (case aL => have := LMc15.out; have hlx_ := (show ((l0_4.take ((wrap64 ((ji11) + (wrap64 (a0_0 - (wrap64 (2 * a0_2)))))) : Int).toNat).drop ((ji11) : Int).toNat).length = ((wrap64 ((ji11) + (wrap64 (a0_0 - (wrap64 (2 * a0_2)))))).toNat - (ji11).toNat) from (by rw [List.length_drop, List.length_take]; have h_ : ((wrap64 ((ji11) + (wrap64 (a0_0 - (wrap64 (2 * a0_2)))))) : Int) ≤ (l0_4.length : Int) := of_decide_eq_true (by first | (with_reducible assumption) | assumption); omega)); omega)
                intro v184 w21 ho hb hg hat
                rw [← Ny183.out] at ho
                have n0_ := Aside0.mk (blk_grown (g := gb179) (o := .cells #[.int .i64 a0_0, .int .i64 a0_1, .int .i64 a0_2, .int .i64 a0_3, .slice A0_4 l0_4.length c0_4] 50 (0, 0)) (bkx BK179) hg (Kd.R_ne HO_182002.out BK179.out (by decide)))
                have n1_ := Aside0.mk (blk_grown (g := gb180) (o := .cells #[.int .i64 0, .int .i64 0, .slice none 0 0] 24 (0, 0)) (bkx BK180) hg (Kd.R_ne HO_182002.out BK180.out (by decide)))
                have n2_ := Aside0.mk (blk_grown (g := gb181) (o := .cells #[.int .i64 (wrap64 (a0_0 - (wrap64 (2 * a0_2)))), .int .i64 (wrap64 (a0_1 - (wrap64 (2 * a0_3)))), u182002] 24 (0, 0)) (bkx BK181) hg (Kd.R_ne HO_182002.out BK181.out (by decide)))
                have n3_ := Aside0.mk (hb)
                have n4_ := Aside0.mk (ho)
                clear BK179
                clear BK180
                clear BK181
                clear HB
                clear HO_182002
                have BK179 := n0_
                have BK180 := n1_
                have BK181 := n2_
                have HB := n3_
                have HO185 := n4_
                clear n0_ n1_ n2_ n3_ n4_
                clear ho hb hg hat
                obtain ⟨Ao22, co22, eo22⟩ := Kd.R_slice HO185.out
                (first | subst eo22 | (injection eo22 with f1_ f2_ f3_; have f4_ := f1_.symm; have f5_ := f3_.symm; clear f1_ f2_ f3_; subst f4_; subst f5_))
                refine hK.out _ _ ⟨(blk_cell BK181.out 0).trans rfl, (blk_cell BK181.out 1).trans rfl, (blk_cell BK181.out 2).trans rfl, (blk_cell BK179.out 0).trans rfl, (blk_cell BK179.out 1).trans rfl, (blk_cell BK179.out 2).trans rfl, (blk_cell BK179.out 3).trans rfl, (blk_cell BK179.out 4).trans rfl⟩ (fun hHeld => ?_)
                clear hK K
                refine norm_ (a' := ?_) ?_ ?_
                rotate_left
                · show Act.put _ (some 44) _ = _
                  simp only [Act.put, List.setIfInBounds_toArray, List.set_cons_zero, List.set_cons_succ, i64_w, i32_w]
                  rfl
                refine pt HT_ 11 45 ?_
                refine last_ (i := 12) (N := none) (bA 13 8191) rfl rfl (one_of HT_.out (by kernel_rfl)) (by decide) (fun K hK => ?_)
                have hs23 : w21.cell? ⟨gb181, 2, none⟩ = some (u182002) := (blk_cell BK181.out 2).trans rfl
                have hfs23 := blk_frozen BK181.out 2
                have hns23_0 := NB179_181.out
                have hns23_1 := NB180_181.out
                have hms23_0 := NB181_179.out
                have hms23_1 := NB181_180.out
                refine skip_ (w1 := ?_) (by rfl) rfl ?_ ?_
                rotate_left
                · go_simp
                  rfl
                refine hK.out _ _ ?_
                clear hK K
                refine done_ (done_of HT_.out (by kernel_rfl)) ?_
                try go_wp2
                go_roundg k1
                case measure => have := HK1.out; omega
                case rel => exact ⟨(wrap64 (x21_1 + 1)), (y183), (.slice Ao22 y183.length co22), (by first | rfl | (simp; done) | (simp [*]; done)), H', ⟨by have := HK1.out; omega⟩, ⟨by refine rkt ?_; exact Kd.R_mono (Kd.R_far (p := ⟨gb181, 2, none⟩) (Kd.R_types HO185.out BK181.out (by decide)) (fun _ hk => hk.2) (.slice Ao22 y183.length co22)) (fun _ hk => trivial)⟩, ⟨bky BK179 NB179_181⟩, ⟨bky BK180 NB180_181⟩, ⟨by refine bkt ?_; refine blk_put (cs := #[.int .i64 (wrap64 (a0_0 - (wrap64 (2 * a0_2)))), .int .i64 (wrap64 (a0_1 - (wrap64 (2 * a0_3)))), u182002]) ?_ 2 _ rfl; refine bkt ?_; exact BK181.out⟩, ⟨hb3 HB GE179 GE180 GE181⟩⟩
              · rw [if_neg c15] at H
                exact absurd H (by simp)
            · rw [if_neg c14] at H
              exact absurd H (by simp)
          · rw [if_neg c13] at H
            exact absurd H (by simp)
        · rw [if_neg c12] at H
          exact absurd H (by simp)
      · rw [if_neg c10] at H
        have c10b0 : decide (x21_1 < (wrap64 (a0_1 - (wrap64 (2 * a0_3))))) = false := decide_eq_false c10
        clear c10
        simp only [Option.some.injEq, Prod.mk.injEq] at H
        obtain ⟨rfl, rfl, rfl⟩ := H
        have hnb24 := NB181_179.out
        have hnc24 := NB179_181.out
        have hnb25 := NB181_180.out
        have hnc25 := NB180_181.out
        have hcz26_0 : wr.cell? ⟨gb181, 0, none⟩ = some (.int .i64 (wrap64 (a0_0 - (wrap64 (2 * a0_2))))) := (blk_cell BK181.out 0).trans rfl
        have hcz26_1 : wr.cell? ⟨gb181, 1, none⟩ = some (.int .i64 (wrap64 (a0_1 - (wrap64 (2 * a0_3))))) := (blk_cell BK181.out 1).trans rfl
        have hcz26_2 : wr.cell? ⟨gb181, 2, none⟩ = some (u182002) := (blk_cell BK181.out 2).trans rfl
        have hfz26_0 := blk_frozen BK181.out 0
        have hfz26_1 := blk_frozen BK181.out 1
        have hfz26_2 := blk_frozen BK181.out 2
        have hnb27 := NB180_179.out
        have hnc27 := NB179_180.out
        have hcz28_0 : wr.cell? ⟨gb180, 0, none⟩ = some (.int .i64 0) := (blk_cell BK180.out 0).trans rfl
        have hcz28_1 : wr.cell? ⟨gb180, 1, none⟩ = some (.int .i64 0) := (blk_cell BK180.out 1).trans rfl
        have hcz28_2 : wr.cell? ⟨gb180, 2, none⟩ = some (.slice none 0 0) := (blk_cell BK180.out 2).trans rfl
        have hfz28_0 := blk_frozen BK180.out 0
        have hfz28_1 := blk_frozen BK180.out 1
        have hfz28_2 := blk_frozen BK180.out 2
        obtain ⟨Ao29, co29, eo29⟩ := Kd.R_slice HO_182002.out
        subst eo29
        go_wp2
        refine bodyPost_ret (results_cell_row rfl _ _ gb180 24 #[.int .i64 (wrap64 (a0_0 - (wrap64 (2 * a0_2)))), .int .i64 (wrap64 (a0_1 - (wrap64 (2 * a0_3)))), .slice Ao29 x182002_1.length co29] (0, 0) _ rfl (by refine bkt ?_; refine blk_put (cs := #[.int .i64 (wrap64 (a0_0 - (wrap64 (2 * a0_2)))), .int .i64 (wrap64 (a0_1 - (wrap64 (2 * a0_3)))), .slice none 0 0]) ?_ 2 _ rfl; refine bkt ?_; refine blk_put (cs := #[.int .i64 (wrap64 (a0_0 - (wrap64 (2 * a0_2)))), .int .i64 0, .slice none 0 0]) ?_ 1 _ rfl; refine bkt ?_; refine blk_put (cs := #[.int .i64 0, .int .i64 0, .slice none 0 0]) ?_ 0 _ rfl; refine bkt ?_; exact BK180.out) Try.underlying24 rfl (by kernel_rfl)) rfl ?_
        exact ⟨_, by first | rfl | (simp [errW_none, errW_some] <;> rfl) | (simp [*, errW_none, errW_some] <;> rfl), by refine rkt ?_; exact Kd.R_mono (Kd.R_far (p := ⟨gb180, 2, none⟩) (Kd.R_far (p := ⟨gb180, 1, none⟩) (Kd.R_far (p := ⟨gb180, 0, none⟩) (Kd.R_types HO_182002.out BK180.out (by decide)) (fun _ hk => hk.2) (.int .i64 (wrap64 (a0_0 - (wrap64 (2 * a0_2)))))) (fun _ hk => hk.2) (.int .i64 (wrap64 (a0_1 - (wrap64 (2 * a0_3)))))) (fun _ hk => hk.2) (.slice Ao29 x182002_1.length co29)) (fun _ hk => trivial), by repeat (first | (with_reducible first | exact HB.out | apply below_alloc | apply pw_below_drewN | apply below_drew1 | refine below_set ?_ GE179.out | refine below_set ?_ GE180.out | refine below_set ?_ GE181.out) | exact HB.out)⟩

end Go.Proofs.Ytkakiblnhgpdnaa.PR
