-- Written by this session's own program (myprint.py).
import Derived.Test.YtbipbbckfmilfaaPRx0
namespace Go.Proofs.Ytbipbbckfmilfaa.PR
open Go.RowKit Go.Proofs.YtbipbbckfmilfaaW.PrintWords Go.Proofs.YtbipbbckfmilfaaW.PrintLast Go.Proofs.YtbipbbckfmilfaaW.PrintMore Go.Proofs.Ytbipbbckfmilfaa.XWords
attribute [local go_sem] max2_int min2_int max_two min_two max_three min_three max_four min_four   -- for this text's walks alone
set_option linter.unusedVariables false
set_option linter.unusedSimpArgs false

/-! ### barscanref43_mean: function 33 -/
mutual
def barscanref43_mean.l0 : Nat → Int → Int → Int → Int → Int → Int → Int → Int → List Int → Option (Int)
  | 0, _, _, _, _, _, _, _, _, _ => none
  | k + 1, x1, x2, x3, x9, x10, x11, x233000, x233001, x233002 => if x11 ≤ (mn (wrap64 (x233001 - 1)) (wrap64 (x2 + x3))) then (barscanref43_mean.l1 k x1 x2 x3 x9 x10 x11 (mx 0 (wrap64 (x1 - x3))) x233000 x233001 x233002) else (if (wrap64 ((wrap64 (2 * x9)) * x9)) = 0 then (none) else (some ((wrap64 (Int.tdiv (wrap64 ((wrap64 (2 * x10)) + (wrap64 (x9 * x9)))) (wrap64 ((wrap64 (2 * x9)) * x9)))) % 256)))
def barscanref43_mean.l1 : Nat → Int → Int → Int → Int → Int → Int → Int → Int → Int → List Int → Option (Int)
  | 0, _, _, _, _, _, _, _, _, _, _ => none
  | k + 1, x1, x2, x3, x9, x10, x11, x12, x233000, x233001, x233002 => if x12 ≤ (mn (wrap64 (x233000 - 1)) (wrap64 (x1 + x3))) then (if 0 ≤ (wrap64 ((wrap64 (x11 * x233000)) + x12)) then (if (wrap64 ((wrap64 (x11 * x233000)) + x12)) < (x233002.length : Int) then (barscanref43_mean.l1 k x1 x2 x3 x9 (wrap64 ((wrap64 (x10 - 255)) + (wrap64 (rd x233002 (wrap64 ((wrap64 (x11 * x233000)) + x12)))))) x11 (wrap64 (x12 + 1)) x233000 x233001 x233002) else (none)) else (none)) else (barscanref43_mean.l0 k x1 x2 x3 x9 x10 (wrap64 (x11 + 1)) x233000 x233001 x233002)
end
def barscanref43_mean.f (k : Nat) (a0_0 : Int) (a0_1 : Int) (l0_2 : List Int) (a1 : Int) (a2 : Int) (a3 : Int) : Option (Int) := barscanref43_mean.l0 k a1 a2 a3 (wrap64 ((wrap64 (2 * a3)) + 1)) (wrap64 ((wrap64 (255 * (wrap64 ((wrap64 (2 * a3)) + 1)))) * (wrap64 ((wrap64 (2 * a3)) + 1)))) (mx 0 (wrap64 (a2 - a3))) a0_0 a0_1 l0_2
theorem barscanref43_mean.mono_l : ∀ k, (∀ y0 y1 y2 y3 y4 y5 y6 y7 y8, LeO (barscanref43_mean.l0 k y0 y1 y2 y3 y4 y5 y6 y7 y8) (barscanref43_mean.l0 (k + 1) y0 y1 y2 y3 y4 y5 y6 y7 y8)) ∧ (∀ y0 y1 y2 y3 y4 y5 y6 y7 y8 y9, LeO (barscanref43_mean.l1 k y0 y1 y2 y3 y4 y5 y6 y7 y8 y9) (barscanref43_mean.l1 (k + 1) y0 y1 y2 y3 y4 y5 y6 y7 y8 y9))
  | 0 => ⟨fun _ _ _ _ _ _ _ _ _ r h => by simp [barscanref43_mean.l0] at h, fun _ _ _ _ _ _ _ _ _ _ r h => by simp [barscanref43_mean.l1] at h⟩
  | k + 1 => by
    obtain ⟨ih0, ih1⟩ := barscanref43_mean.mono_l k
    refine ⟨?_, ?_⟩
    · intro y0 y1 y2 y3 y4 y5 y6 y7 y8
      unfold barscanref43_mean.l0
      repeat' first
      | (with_reducible exact ih0 _ _ _ _ _ _ _ _ _)
      | (with_reducible exact ih1 _ _ _ _ _ _ _ _ _ _)
      | (with_reducible exact LeO.refl _)
      | (with_reducible exact LeO.none _)
      | (with_reducible refine LeO.ite ?_ ?_)
      | (with_reducible refine LeO.bind ?_ (fun _ => ?_))
      | exact ih0 _ _ _ _ _ _ _ _ _
      | exact ih1 _ _ _ _ _ _ _ _ _ _
      | exact LeO.none _
      | refine LeO.ite ?_ ?_
      | refine LeO.bind ?_ (fun _ => ?_)
    · intro y0 y1 y2 y3 y4 y5 y6 y7 y8 y9
      unfold barscanref43_mean.l1
      repeat' first
      | (with_reducible exact ih0 _ _ _ _ _ _ _ _ _)
      | (with_reducible exact ih1 _ _ _ _ _ _ _ _ _ _)
      | (with_reducible exact LeO.refl _)
      | (with_reducible exact LeO.none _)
      | (with_reducible refine LeO.ite ?_ ?_)
      | (with_reducible refine LeO.bind ?_ (fun _ => ?_))
      | exact ih0 _ _ _ _ _ _ _ _ _
      | exact ih1 _ _ _ _ _ _ _ _ _ _
      | exact LeO.none _
      | refine LeO.ite ?_ ?_
      | refine LeO.bind ?_ (fun _ => ?_)
theorem barscanref43_mean.mono : ∀ a0 a1 a2 a3 a4 a5 k, LeO (barscanref43_mean.f k a0 a1 a2 a3 a4 a5) (barscanref43_mean.f (k + 1) a0 a1 a2 a3 a4 a5) := by
  intro a0 a1 a2 a3 a4 a5 k
  obtain ⟨ih0, ih1⟩ := barscanref43_mean.mono_l k
  unfold barscanref43_mean.f
  repeat' first
      | (with_reducible exact ih0 _ _ _ _ _ _ _ _ _)
      | (with_reducible exact ih1 _ _ _ _ _ _ _ _ _ _)
      | (with_reducible exact LeO.refl _)
      | (with_reducible exact LeO.none _)
      | (with_reducible refine LeO.ite ?_ ?_)
      | (with_reducible refine LeO.bind ?_ (fun _ => ?_))
      | exact ih0 _ _ _ _ _ _ _ _ _
      | exact ih1 _ _ _ _ _ _ _ _ _ _
      | exact LeO.none _
      | refine LeO.ite ?_ ?_
      | refine LeO.bind ?_ (fun _ => ?_)
set_option maxHeartbeats 8000000 in
set_option maxRecDepth 100000 in
theorem barscanref43_mean.calls (k : Nat) (a0_0 : Int) (a0_1 : Int) (A0_2 : Option Addr) (c0_2 : Nat) (l0_2 : List Int) (a1 : Int) (a2 : Int) (a3 : Int) (r : Int) (w : World) (hr0_2 : Kd.C (Kd.int .u8) w A0_2 l0_2.length l0_2) (hc0_2 : l0_2.length ≤ c0_2) (h : barscanref43_mean.f k a0_0 a0_1 l0_2 a1 a2 a3 = some r) :
    Calls Try.prog 33 #[.agg #[.int .i64 a0_0, .int .i64 a0_1, .slice A0_2 l0_2.length c0_2], .int .i64 a1, .int .i64 a2, .int .i64 a3] w fun e w' => e = .returned (.int .u8 r) ∧ Below w.heap.size w w' := by
  have hu24 := Try.underlying24
  have HR0_2 := Aside0.mk hr0_2
  have HC0_2 := Aside0.mk hc0_2
  clear hr0_2 hc0_2
  have HB := Aside0.mk (Below.refl w.heap.size w)
  have H : (barscanref43_mean.l0 k a1 a2 a3 (wrap64 ((wrap64 (2 * a3)) + 1)) (wrap64 ((wrap64 (255 * (wrap64 ((wrap64 (2 * a3)) + 1)))) * (wrap64 ((wrap64 (2 * a3)) + 1)))) (mx 0 (wrap64 (a2 - a3))) a0_0 a0_1 l0_2) = some r := h
  clear h
  obtain ⟨ji5, hji5⟩ : ∃ j_ : Int, (mx 0 (wrap64 (a2 - a3))) = j_ := ⟨_, rfl⟩
  replace H : (barscanref43_mean.l0 k a1 a2 a3 (wrap64 ((wrap64 (2 * a3)) + 1)) (wrap64 ((wrap64 (255 * (wrap64 ((wrap64 (2 * a3)) + 1)))) * (wrap64 ((wrap64 (2 * a3)) + 1)))) ji5 a0_0 a0_1 l0_2) = some r := by first | (rw [hji5] at H; exact H) | (simp only [hji5] at H ⊢; exact H)
  (try (have hji5l : 0 ≤ ji5 := by (rw [← hji5]; unfold mx; (repeat' split) <;> omega)))
  (try (have hji5m : 0 ≤ ji5 := by omega))
  have hji5_ : (if 0 < (wrap64 (a2 - a3)) then (wrap64 (a2 - a3)) else 0) = ji5 := hji5
  have H' := Aside0.mk H
  clear H
  go_enter Try.func33, Try.ntmps33
  go_wp2_with (first | ((with_reducible refine gate_dst (N := 4) rfl ?_); refine box_event ?hg (N := 4) ?hd (cs := #[.int .i64 a0_0, .int .i64 a0_1, .slice A0_2 l0_2.length c0_2]) (t := 24) ?hr ?_; (case hd => rfl); (case hg => rfl); (case hr => first | (go_simp; done) | (go_simp; rfl)); intro gb232 hg w6 hbox hb; have n0_ := Aside0.mk (below_step (by repeat (first | (with_reducible first | exact HB.out | apply below_alloc | apply pw_below_drewN | apply below_drew1) | exact HB.out)) hb); have n1_ := Aside0.mk (hbox); have n2_ := Aside0.mk ((by rw [hg]; exact (below_size (by repeat (first | (with_reducible first | exact HB.out | apply below_alloc | apply pw_below_drewN | apply below_drew1) | exact HB.out))) : w.heap.size ≤ gb232)); have n3_ := Aside0.mk ((by rw [hg]; exact (below_size (by repeat (first | (with_reducible first | exact HB.out | apply below_alloc | apply pw_below_drewN | apply below_drew1) | exact HB.out))) : w.heap.size ≤ gb232)); clear HB; have HB := n0_; have BK232 := n1_; have GW232 := n2_; have GE232 := n3_; clear n0_ n1_ n2_ n3_; clear hb hbox hg))
  go_loopg [10, 11] k (fun kq v10 v11 w' => ∃ (x10_1 : Int) (x11_1 : Int), v10 = .int .i64 x10_1 ∧ v11 = .int .i64 x11_1 ∧ Aside0 (barscanref43_mean.l0 kq a1 a2 a3 (wrap64 ((wrap64 (2 * a3)) + 1)) x10_1 x11_1 a0_0 a0_1 l0_2 = some r) ∧ Aside0 (kq ≤ k) ∧ Aside0 (w'.heap[gb232]? = some (.cells #[.int .i64 a0_0, .int .i64 a0_1, (.slice A0_2 l0_2.length c0_2)] 24 (0, 0))) ∧ Aside0 (Below w.heap.size w w'))
  case atStart => exact ⟨(wrap64 ((wrap64 (255 * (wrap64 ((wrap64 (2 * a3)) + 1)))) * (wrap64 ((wrap64 (2 * a3)) + 1)))), (ji5), (by first | rfl | (simp; done) | (simp [*]; done)), (by first | rfl | (simp; done) | (simp only [← hji5] <;> (first | rfl | simp)) | (simp [*]; done)), H', ⟨Nat.le_refl _⟩, ⟨by (with_reducible repeat (first | refine blk_drewN ?_ _ | refine blk_drew ?_ | refine blk_alloc ?_ _)); exact BK232.out⟩, ⟨by repeat (first | (with_reducible first | exact HB.out | apply below_alloc | apply pw_below_drewN | apply below_drew1 | refine below_set ?_ GE232.out) | exact HB.out)⟩⟩
  case round =>
    clear H'
    try clear p2
    try clear c3
    try clear p6
    obtain ⟨x10_1, x11_1, rfl, rfl, HA, HK1, BK232, HB⟩ := hrel
    cases gk with
    | zero => exact absurd HA.out (by simp [barscanref43_mean.l0])
    | succ k1 =>
      have H := HA.out
      clear HA
      simp only [barscanref43_mean.l0] at H
      obtain ⟨ji7, hji7⟩ : ∃ j_ : Int, (mn (wrap64 (a0_1 - 1)) (wrap64 (a2 + a3))) = j_ := ⟨_, rfl⟩
      replace H : (if x11_1 ≤ (ji7) then (barscanref43_mean.l1 k1 a1 a2 a3 (wrap64 ((wrap64 (2 * a3)) + 1)) x10_1 x11_1 (mx 0 (wrap64 (a1 - a3))) a0_0 a0_1 l0_2) else (if (wrap64 ((wrap64 (2 * (wrap64 ((wrap64 (2 * a3)) + 1)))) * (wrap64 ((wrap64 (2 * a3)) + 1)))) = 0 then (none) else (some ((wrap64 (Int.tdiv (wrap64 ((wrap64 (2 * x10_1)) + (wrap64 ((wrap64 ((wrap64 (2 * a3)) + 1)) * (wrap64 ((wrap64 (2 * a3)) + 1)))))) (wrap64 ((wrap64 (2 * (wrap64 ((wrap64 (2 * a3)) + 1)))) * (wrap64 ((wrap64 (2 * a3)) + 1)))))) % 256)))) = some r := by first | (rw [hji7] at H; exact H) | (simp only [hji7] at H ⊢; exact H)
      have hji7_ : (if (wrap64 (a2 + a3)) < (wrap64 (a0_1 - 1)) then (wrap64 (a2 + a3)) else (wrap64 (a0_1 - 1))) = ji7 := hji7
      by_cases c8 : x11_1 ≤ (ji7)
      · rw [if_pos c8] at H
        have c8b0 : decide (x11_1 ≤ (ji7)) = true := decide_eq_true c8
        clear c8
        obtain ⟨ji9, hji9⟩ : ∃ j_ : Int, (mx 0 (wrap64 (a1 - a3))) = j_ := ⟨_, rfl⟩
        replace H : (barscanref43_mean.l1 k1 a1 a2 a3 (wrap64 ((wrap64 (2 * a3)) + 1)) x10_1 x11_1 ji9 a0_0 a0_1 l0_2) = some r := by first | (rw [hji9] at H; exact H) | (simp only [hji9] at H ⊢; exact H)
        have hji9_ : (if 0 < (wrap64 (a1 - a3)) then (wrap64 (a1 - a3)) else 0) = ji9 := hji9
        have H' := Aside0.mk H
        clear H
        have hcz10_0 : wr.cell? ⟨gb232, 0, none⟩ = some (.int .i64 a0_0) := (blk_cell BK232.out 0).trans rfl
        have hcz10_1 : wr.cell? ⟨gb232, 1, none⟩ = some (.int .i64 a0_1) := (blk_cell BK232.out 1).trans rfl
        have hcz10_2 : wr.cell? ⟨gb232, 2, none⟩ = some (.slice A0_2 l0_2.length c0_2) := (blk_cell BK232.out 2).trans rfl
        have hfz10_0 := blk_frozen BK232.out 0
        have hfz10_1 := blk_frozen BK232.out 1
        have hfz10_2 := blk_frozen BK232.out 2
        go_wp2
        go_loopg [10, 12] k1 (fun kq v10 v12 w' => ∃ (x10_2 : Int) (x12_2 : Int), v10 = .int .i64 x10_2 ∧ v12 = .int .i64 x12_2 ∧ Aside0 (barscanref43_mean.l1 kq a1 a2 a3 (wrap64 ((wrap64 (2 * a3)) + 1)) x10_2 x11_1 x12_2 a0_0 a0_1 l0_2 = some r) ∧ Aside0 (kq ≤ k1) ∧ Aside0 (w'.heap[gb232]? = some (.cells #[.int .i64 a0_0, .int .i64 a0_1, (.slice A0_2 l0_2.length c0_2)] 24 (0, 0))) ∧ Aside0 (Below w.heap.size w w'))
        case atStart => exact ⟨(x10_1), (ji9), (by first | rfl | (simp; done) | (simp [*]; done)), (by first | rfl | (simp; done) | (simp only [← hji9] <;> (first | rfl | simp)) | (simp [*]; done)), H', ⟨Nat.le_refl _⟩, ⟨by (with_reducible repeat (first | refine blk_drewN ?_ _ | refine blk_drew ?_ | refine blk_alloc ?_ _)); exact BK232.out⟩, ⟨by repeat (first | (with_reducible first | exact HB.out | apply below_alloc | apply pw_below_drewN | apply below_drew1 | refine below_set ?_ GE232.out) | exact HB.out)⟩⟩
        case round =>
          clear H'
          try clear p2
          try clear c3
          try clear p6
          try clear c8
          try clear c8b0
          try clear hcz10_0
          try clear hcz10_1
          try clear hcz10_2
          try clear hfz10_0
          try clear hfz10_1
          try clear hfz10_2
          try clear p2
          try clear p6
          obtain ⟨x10_2, x12_2, rfl, rfl, HA, HK2, BK232, HB⟩ := hrel
          cases gk with
          | zero => exact absurd HA.out (by simp [barscanref43_mean.l1])
          | succ k2 =>
            have H := HA.out
            clear HA
            simp only [barscanref43_mean.l1] at H
            obtain ⟨ji11, hji11⟩ : ∃ j_ : Int, (mn (wrap64 (a0_0 - 1)) (wrap64 (a1 + a3))) = j_ := ⟨_, rfl⟩
            replace H : (if x12_2 ≤ (ji11) then (if 0 ≤ (wrap64 ((wrap64 (x11_1 * a0_0)) + x12_2)) then (if (wrap64 ((wrap64 (x11_1 * a0_0)) + x12_2)) < (l0_2.length : Int) then (barscanref43_mean.l1 k2 a1 a2 a3 (wrap64 ((wrap64 (2 * a3)) + 1)) (wrap64 ((wrap64 (x10_2 - 255)) + (wrap64 (rd l0_2 (wrap64 ((wrap64 (x11_1 * a0_0)) + x12_2)))))) x11_1 (wrap64 (x12_2 + 1)) a0_0 a0_1 l0_2) else (none)) else (none)) else (barscanref43_mean.l0 k2 a1 a2 a3 (wrap64 ((wrap64 (2 * a3)) + 1)) x10_2 (wrap64 (x11_1 + 1)) a0_0 a0_1 l0_2)) = some r := by first | (rw [hji11] at H; exact H) | (simp only [hji11] at H ⊢; exact H)
            have hji11_ : (if (wrap64 (a1 + a3)) < (wrap64 (a0_0 - 1)) then (wrap64 (a1 + a3)) else (wrap64 (a0_0 - 1))) = ji11 := hji11
            by_cases c12 : x12_2 ≤ (ji11)
            · rw [if_pos c12] at H
              have c12b0 : decide (x12_2 ≤ (ji11)) = true := decide_eq_true c12
              clear c12
              obtain ⟨ji13, hji13⟩ : ∃ j_ : Int, (wrap64 ((wrap64 (x11_1 * a0_0)) + x12_2)) = j_ := ⟨_, rfl⟩
              replace H : (if 0 ≤ (ji13) then (if (ji13) < (l0_2.length : Int) then (barscanref43_mean.l1 k2 a1 a2 a3 (wrap64 ((wrap64 (2 * a3)) + 1)) (wrap64 ((wrap64 (x10_2 - 255)) + (wrap64 (rd l0_2 (ji13))))) x11_1 (wrap64 (x12_2 + 1)) a0_0 a0_1 l0_2) else (none)) else (none)) = some r := by first | (rw [hji13] at H; exact H) | (simp only [hji13] at H ⊢; exact H)
              have hji13w : (IntKind.i64.wrap ((wrap64 (x11_1 * a0_0)) + x12_2)) = ji13 := (i64_w _).trans hji13
              by_cases c14 : 0 ≤ (ji13)
              · rw [if_pos c14] at H
                have c14b0 : decide (0 ≤ (ji13)) = true := decide_eq_true c14
                clear c14
                by_cases c15 : (ji13) < (l0_2.length : Int)
                · rw [if_pos c15] at H
                  have c15b0 : decide ((ji13) < (l0_2.length : Int)) = true := decide_eq_true c15
                  clear c15
                  have H' := Aside0.mk H
                  clear H
                  have hcz16_0 : wr.cell? ⟨gb232, 0, none⟩ = some (.int .i64 a0_0) := (blk_cell BK232.out 0).trans rfl
                  have hcz16_1 : wr.cell? ⟨gb232, 1, none⟩ = some (.int .i64 a0_1) := (blk_cell BK232.out 1).trans rfl
                  have hcz16_2 : wr.cell? ⟨gb232, 2, none⟩ = some (.slice A0_2 l0_2.length c0_2) := (blk_cell BK232.out 2).trans rfl
                  have hfz16_0 := blk_frozen BK232.out 0
                  have hfz16_1 := blk_frozen BK232.out 1
                  have hfz16_2 := blk_frozen BK232.out 2
                  have p233 : 0 ≤ ((ji13) : Int) := of_decide_eq_true (by first | (with_reducible assumption) | assumption)
                  have q233 : (ji13) < (l0_2.length : Int) := of_decide_eq_true (by first | (with_reducible assumption) | assumption)
                  obtain ⟨ad233, e233, hx233_0⟩ := Kd.at_int HR0_2.out (ji13) p233 q233
                  cases e233
                  replace hx233_0 := (HB.out.cell (World.block_lt_of_cell? w _ hx233_0)).trans hx233_0
                  replace p233 := eq_true p233
                  replace q233 := eq_true q233
                  go_wp2
                  go_roundg k2
                  case measure => have := HK1.out; have := HK2.out; omega
                  case rel => exact ⟨(wrap64 ((wrap64 (x10_2 - 255)) + (wrap64 (rd l0_2 (ji13))))), (wrap64 (x12_2 + 1)), (by first | rfl | (simp; done) | (simp only [← hji13] <;> (first | rfl | simp)) | (simp [*]; done)), (by first | rfl | (simp; done) | (simp [*]; done)), H', ⟨by have := HK1.out; have := HK2.out; omega⟩, ⟨by (with_reducible repeat (first | refine blk_drewN ?_ _ | refine blk_drew ?_ | refine blk_alloc ?_ _)); exact BK232.out⟩, ⟨by repeat (first | (with_reducible first | exact HB.out | apply below_alloc | apply pw_below_drewN | apply below_drew1 | refine below_set ?_ GE232.out) | exact HB.out)⟩⟩
                · rw [if_neg c15] at H
                  exact absurd H (by simp)
              · rw [if_neg c14] at H
                exact absurd H (by simp)
            · rw [if_neg c12] at H
              have c12b0 : decide (x12_2 ≤ (ji11)) = false := decide_eq_false c12
              clear c12
              have H' := Aside0.mk H
              clear H
              have hcz17_0 : wr.cell? ⟨gb232, 0, none⟩ = some (.int .i64 a0_0) := (blk_cell BK232.out 0).trans rfl
              have hcz17_1 : wr.cell? ⟨gb232, 1, none⟩ = some (.int .i64 a0_1) := (blk_cell BK232.out 1).trans rfl
              have hcz17_2 : wr.cell? ⟨gb232, 2, none⟩ = some (.slice A0_2 l0_2.length c0_2) := (blk_cell BK232.out 2).trans rfl
              have hfz17_0 := blk_frozen BK232.out 0
              have hfz17_1 := blk_frozen BK232.out 1
              have hfz17_2 := blk_frozen BK232.out 2
              go_wp2
              go_roundg k2
              case measure => have := HK1.out; have := HK2.out; omega
              case rel => exact ⟨(x10_2), (wrap64 (x11_1 + 1)), (by first | rfl | (simp; done) | (simp [*]; done)), (by first | rfl | (simp; done) | (simp [*]; done)), H', ⟨by have := HK1.out; have := HK2.out; omega⟩, ⟨by (with_reducible repeat (first | refine blk_drewN ?_ _ | refine blk_drew ?_ | refine blk_alloc ?_ _)); exact BK232.out⟩, ⟨by repeat (first | (with_reducible first | exact HB.out | apply below_alloc | apply pw_below_drewN | apply below_drew1 | refine below_set ?_ GE232.out) | exact HB.out)⟩⟩
      · rw [if_neg c8] at H
        have c8b0 : decide (x11_1 ≤ (ji7)) = false := decide_eq_false c8
        clear c8
        by_cases c18 : (wrap64 ((wrap64 (2 * (wrap64 ((wrap64 (2 * a3)) + 1)))) * (wrap64 ((wrap64 (2 * a3)) + 1)))) = 0
        · rw [if_pos c18] at H
          exact absurd H (by simp)
        · rw [if_neg c18] at H
          have c18b0 : ((wrap64 ((wrap64 (2 * (wrap64 ((wrap64 (2 * a3)) + 1)))) * (wrap64 ((wrap64 (2 * a3)) + 1)))) == 0) = false := beq_eq_false_iff_ne.mpr c18
          have c18b1 : ((wrap64 ((wrap64 (2 * (wrap64 ((wrap64 (2 * a3)) + 1)))) * (wrap64 ((wrap64 (2 * a3)) + 1)))) != 0) = true := bne_iff_ne.mpr c18
          obtain rfl := Option.some.inj H
          have hcz19_0 : wr.cell? ⟨gb232, 0, none⟩ = some (.int .i64 a0_0) := (blk_cell BK232.out 0).trans rfl
          have hcz19_1 : wr.cell? ⟨gb232, 1, none⟩ = some (.int .i64 a0_1) := (blk_cell BK232.out 1).trans rfl
          have hcz19_2 : wr.cell? ⟨gb232, 2, none⟩ = some (.slice A0_2 l0_2.length c0_2) := (blk_cell BK232.out 2).trans rfl
          have hfz19_0 := blk_frozen BK232.out 0
          have hfz19_1 := blk_frozen BK232.out 1
          have hfz19_2 := blk_frozen BK232.out 2
          go_wp2
          go_ret
          exact ⟨by first | rfl | (simp [errW_none, errW_some] <;> rfl) | (simp only [← hji5, ← hji7]; first | rfl | (simp [errW_none, errW_some] <;> rfl)) | (simp [*, errW_none, errW_some] <;> rfl), by repeat (first | (with_reducible first | exact HB.out | apply below_alloc | apply pw_below_drewN | apply below_drew1 | refine below_set ?_ GE232.out) | exact HB.out)⟩

end Go.Proofs.Ytbipbbckfmilfaa.PR
