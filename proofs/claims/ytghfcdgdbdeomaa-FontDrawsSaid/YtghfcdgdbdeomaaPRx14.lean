-- Written by this session's own program (myprint.py).
import Derived.Test.YtghfcdgdbdeomaaPRx0
import Derived.Test.YtghfcdgdbdeomaaPRx12
namespace Go.Proofs.Ytghfcdgdbdeomaa.PR
open Go.RowKit Go.Proofs.YtghfcdgdbdeomaaW.PrintWords Go.Proofs.YtghfcdgdbdeomaaW.PrintLast Go.Proofs.YtghfcdgdbdeomaaW.PrintMore Go.Proofs.Ytghfcdgdbdeomaa.XWords Go.Proofs.Ytghfcdgdbdeomaa.XShort
attribute [local go_sem] max2_int min2_int max_two min_two max_three min_three max_four min_four   -- for this text's walks alone
set_option linter.unusedVariables false
set_option linter.unusedSimpArgs false

/-! ### barscanref47_Glyph: function 19 -/
def barscanref47_Glyph.l0 : Nat → ByteArray → Int → Int → Int → List Bool → Option (Int × Int × List Bool × Int)
  | 0, _, _, _, _, _ => none
  | k + 1, x4, x6, x270000, x270001, x270002 => if x6 < (x4.size : Int) then (if 0 ≤ x6 then (if (bt x4 x6) = 32 then (barscanref47_Glyph.l0 k x4 (wrap64 (x6 + 1)) x270000 x270001 x270002) else (if x270002.length < 140737488355328 then (barscanref47_Glyph.l0 k x4 (wrap64 (x6 + 1)) x270000 x270001 (x270002 ++ [((bt x4 x6) == 49)])) else (none))) else (none)) else (some (x270000, x270001, x270002, 0))
def barscanref47_Glyph.f (k : Nat) (a0 : Int) : Option (Int × Int × List Bool × Int) := (barscanref47_rows.f a0).bind fun t268 => (if t268.toList = ([] : List UInt8) then (some (0, 0, ([] : List Bool), 6)) else (barscanref47_Glyph.l0 k t268 0 5 7 ([] : List Bool)))
theorem barscanref47_Glyph.mono_l : ∀ k, (∀ y0 y1 y2 y3 y4, LeO (barscanref47_Glyph.l0 k y0 y1 y2 y3 y4) (barscanref47_Glyph.l0 (k + 1) y0 y1 y2 y3 y4))
  | 0 => fun _ _ _ _ _ r h => by simp [barscanref47_Glyph.l0] at h
  | k + 1 => by
    have ih0 := barscanref47_Glyph.mono_l k
    · intro y0 y1 y2 y3 y4
      unfold barscanref47_Glyph.l0
      repeat' first
      | (with_reducible exact ih0 _ _ _ _ _)
      | (with_reducible exact LeO.refl _)
      | (with_reducible exact LeO.none _)
      | (with_reducible refine LeO.ite ?_ ?_)
      | (with_reducible refine LeO.bind ?_ (fun _ => ?_))
      | exact ih0 _ _ _ _ _
      | exact LeO.none _
      | refine LeO.ite ?_ ?_
      | refine LeO.bind ?_ (fun _ => ?_)
theorem barscanref47_Glyph.mono : ∀ a0 k, LeO (barscanref47_Glyph.f k a0) (barscanref47_Glyph.f (k + 1) a0) := by
  intro a0 k
  have ih0 := barscanref47_Glyph.mono_l k
  unfold barscanref47_Glyph.f
  repeat' first
      | (with_reducible exact ih0 _ _ _ _ _)
      | (with_reducible exact LeO.refl _)
      | (with_reducible exact LeO.none _)
      | (with_reducible refine LeO.ite ?_ ?_)
      | (with_reducible refine LeO.bind ?_ (fun _ => ?_))
      | exact ih0 _ _ _ _ _
      | exact LeO.none _
      | refine LeO.ite ?_ ?_
      | refine LeO.bind ?_ (fun _ => ?_)
def barscanref47_Glyph.T9 : Bool × List (List Nat × List Nat) := (true, [([], []), ([0], [0]), ([], []), ([], []), ([2, 3], [2, 3]), ([4], [4]), ([5], [5]), ([1, 6], [1, 6]), ([0, 1, 2, 3, 4, 5, 6, 7], []), ([8, 7, 7, 0, 1, 2, 3, 4, 5, 6, 7], [7, 8])])
def barscanref47_Glyph.B9 : List Nat := [0, 1, 0, 0, 12, 28, 60, 127, 255, 511]
theorem barscanref47_Glyph.tab9 : rtab .any (opsOf Try.f19 9) = barscanref47_Glyph.T9 := by kernel_rfl
theorem barscanref47_Glyph.bits9 : waitsOk barscanref47_Glyph.T9.2 barscanref47_Glyph.B9 = true := by kernel_rfl
set_option maxHeartbeats 8000000 in
set_option maxRecDepth 100000 in
theorem barscanref47_Glyph.calls (k : Nat) (a0 : Int) (r1 : Int) (r2 : Int) (r3 : List Bool) (r4 : Int) (w : World) (h : barscanref47_Glyph.f k a0 = some (r1, r2, r3, r4)) :
    Calls Try.prog 19 #[.int .u8 a0] w fun e w' => ∃ v2_ : Value, e = .returned (.tuple #[.agg #[.int .i64 r1, .int .i64 r2, v2_], .int .i64 r4]) ∧ Kd.R Kd.bool 4 w' w.heap.size (fun _ => True) v2_ r3 ∧ Below w.heap.size w w' := by
  have hu24 := Try.underlying24
  have HB := Aside0.mk (Below.refl w.heap.size w)
  have H : ((barscanref47_rows.f a0).bind fun t268 => (if t268.toList = ([] : List UInt8) then (some (0, 0, ([] : List Bool), 6)) else (barscanref47_Glyph.l0 k t268 0 5 7 ([] : List Bool)))) = some (r1, r2, r3, r4) := h
  clear h
  replace H := Option.bind_eq_some_iff.mp H
  obtain ⟨t268, A20, H⟩ := H
  replace H : (if t268.toList = ([] : List UInt8) then (some (0, 0, ([] : List Bool), 6)) else (barscanref47_Glyph.l0 k t268 0 5 7 ([] : List Bool))) = some (r1, r2, r3, r4) := H
  have A2 := Aside0.mk A20
  clear A20
  by_cases c3 : t268.toList = ([] : List UInt8)
  · rw [if_pos c3] at H
    have c3b0 : (t268.toList == ([] : List UInt8)) = true := beq_iff_eq.mpr c3
    have c3b1 : (t268.toList != ([] : List UInt8)) = false := bne_eq_false_iff_eq.mpr c3
    clear c3
    simp only [Option.some.injEq, Prod.mk.injEq] at H
    obtain ⟨rfl, rfl, rfl, rfl⟩ := H
    go_enter Try.func19, Try.ntmps19
    go_wp2_with (first | ((with_reducible refine gate_dst (N := 2) rfl ?_); refine box_event ?hg (N := 2) ?hd (cs := #[.int .i64 0, .int .i64 0, .slice none 0 0]) (t := 24) ?hr ?_; (case hd => rfl); (case hg => rfl); (case hr => first | (go_simp; done) | (go_simp; rfl)); intro gb267 hg w4 hbox hb; have n0_ := Aside0.mk (below_step (hb0 HB) hb); have n1_ := Aside0.mk (hbox); have n2_ := Aside0.mk ((by rw [hg]; exact (below_size (hb0 HB)) : w.heap.size ≤ gb267)); have n3_ := Aside0.mk ((by rw [hg]; exact (below_size (hb0 HB)) : w.heap.size ≤ gb267)); clear HB; have HB := n0_; have BK267 := n1_; have GW267 := n2_; have GE267 := n3_; clear n0_ n1_ n2_ n3_; clear hb hbox hg) | ((with_reducible refine gate_callee (f := 30) rfl ?_); refine goesL_ (some 8) rfl rfl Try.func30 (by kernel_rfl) rfl #[.int .u8 a0] rfl mapx ?_; (with_reducible refine (barscanref47_rows.calls a0 t268 _ A2.out).mono ?_); rintro e w' ⟨rfl, ⟨nd, rfl⟩⟩; refine ⟨_, rfl, ?_⟩; (try (rw [drewN_self w4]; generalize hq_ : World.drewN w4 _ = w4; have n0_ : Aside0 (w4.heap[gb267]? = some (.cells #[.int .i64 0, .int .i64 0, .slice none 0 0] 24 (0, 0))) := ⟨by rw [← hq_]; exact (bkx BK267)⟩; have n1_ : Aside0 (Below w.heap.size w w4) := ⟨by rw [← hq_]; exact (hb1 HB GE267)⟩; clear BK267 HB hq_; have BK267 := n0_; have HB := n1_; clear n0_ n1_)); have hcz5_0 : w4.cell? ⟨gb267, 0, none⟩ = some (.int .i64 0) := (blk_cell BK267.out 0).trans rfl; have hcz5_1 : w4.cell? ⟨gb267, 1, none⟩ = some (.int .i64 0) := (blk_cell BK267.out 1).trans rfl; have hcz5_2 : w4.cell? ⟨gb267, 2, none⟩ = some (.slice none 0 0) := (blk_cell BK267.out 2).trans rfl; have hfz5_0 := blk_frozen BK267.out 0; have hfz5_1 := blk_frozen BK267.out 1; have hfz5_2 := blk_frozen BK267.out 2))
    refine bodyPost_ret (results_ct rfl _ _ gb267 24 #[.int .i64 0, .int .i64 0, .slice none 0 0] (0, 0) _ rfl (by refine bkt ?_; refine blk_put (cs := #[.int .i64 0, .int .i64 0, .slice none 0 0]) ?_ 2 _ rfl; refine bkt ?_; refine blk_put (cs := #[.int .i64 0, .int .i64 0, .slice none 0 0]) ?_ 1 _ rfl; refine bkt ?_; refine blk_put (cs := #[.int .i64 0, .int .i64 0, .slice none 0 0]) ?_ 0 _ rfl; refine bkt ?_; exact BK267.out) Try.underlying24 rfl (by kernel_rfl)) rfl ?_
    exact ⟨_, by first | rfl | (simp [errW_none, errW_some] <;> rfl) | (simp [*, errW_none, errW_some] <;> rfl), by first | exact Kd.R_nil _ _ _ _ _ | exact Kd.N_nil _ _ _ _ _ | exact Kd.V_nil _ _ _ _ _ | exact Kd.Q_nil _ _ _ _ _ | exact Kd.S_nil _ _ _ _ _, by repeat (first | (with_reducible first | exact HB.out | apply below_alloc | apply pw_below_drewN | apply below_drew1 | refine below_set ?_ GE267.out) | exact HB.out)⟩
  · rw [if_neg c3] at H
    have c3b0 : (t268.toList == ([] : List UInt8)) = false := beq_eq_false_iff_ne.mpr c3
    have c3b1 : (t268.toList != ([] : List UInt8)) = true := bne_iff_ne.mpr c3
    have H' := Aside0.mk H
    clear H
    go_enter Try.func19, Try.ntmps19
    go_wp2_with (first | ((with_reducible refine gate_dst (N := 2) rfl ?_); refine box_event ?hg (N := 2) ?hd (cs := #[.int .i64 0, .int .i64 0, .slice none 0 0]) (t := 24) ?hr ?_; (case hd => rfl); (case hg => rfl); (case hr => first | (go_simp; done) | (go_simp; rfl)); intro gb267 hg w6 hbox hb; have n0_ := Aside0.mk (below_step (hb0 HB) hb); have n1_ := Aside0.mk (hbox); have n2_ := Aside0.mk ((by rw [hg]; exact (below_size (hb0 HB)) : w.heap.size ≤ gb267)); have n3_ := Aside0.mk ((by rw [hg]; exact (below_size (hb0 HB)) : w.heap.size ≤ gb267)); clear HB; have HB := n0_; have BK267 := n1_; have GW267 := n2_; have GE267 := n3_; clear n0_ n1_ n2_ n3_; clear hb hbox hg) | ((with_reducible refine gate_callee (f := 30) rfl ?_); refine goesL_ (some 8) rfl rfl Try.func30 (by kernel_rfl) rfl #[.int .u8 a0] rfl mapx ?_; (with_reducible refine (barscanref47_rows.calls a0 t268 _ A2.out).mono ?_); rintro e w' ⟨rfl, ⟨nd, rfl⟩⟩; refine ⟨_, rfl, ?_⟩; (try (rw [drewN_self w6]; generalize hq_ : World.drewN w6 _ = w6; have n0_ : Aside0 (w6.heap[gb267]? = some (.cells #[.int .i64 0, .int .i64 0, .slice none 0 0] 24 (0, 0))) := ⟨by rw [← hq_]; exact (bkx BK267)⟩; have n1_ : Aside0 (Below w.heap.size w w6) := ⟨by rw [← hq_]; exact (hb1 HB GE267)⟩; clear BK267 HB hq_; have BK267 := n0_; have HB := n1_; clear n0_ n1_))) | ((with_reducible refine gate_dst (N := 5) rfl ?_); refine box_event ?hg (N := 5) ?hd (cs := #[.int .i64 0, .int .i64 0, .slice none 0 0]) (t := 24) ?hr ?_; (case hd => rfl); (case hg => rfl); (case hr => first | (go_simp; done) | (go_simp; rfl)); intro gb269 hg w7 hbox hb; have n0_ := Aside0.mk (blk_below (bkx BK267) hb); have n1_ := Aside0.mk (below_step (hb1 HB GE267) hb); have n2_ := Aside0.mk (hbox); have n3_ := Aside0.mk ((by rw [hg]; exact (below_size (hb1 HB GE267)) : w.heap.size ≤ gb269)); have n4_ := Aside0.mk ((by rw [hg]; exact (below_size (hb1 HB GE267)) : w.heap.size ≤ gb269)); have n5_ := Aside0.mk (nel hg BK267 : gb267 ≠ gb269); have n6_ := Aside0.mk (neg hg BK267 : gb269 ≠ gb267); clear BK267; clear HB; have BK267 := n0_; have HB := n1_; have BK269 := n2_; have GW269 := n3_; have GE269 := n4_; have NB267_269 := n5_; have NB269_267 := n6_; clear n0_ n1_ n2_ n3_ n4_ n5_ n6_; clear hb hbox hg; have hnb8 := NB269_267.out; have hnc8 := NB267_269.out; have hcz9_0 : w7.cell? ⟨gb269, 0, none⟩ = some (.int .i64 0) := (blk_cell BK269.out 0).trans rfl; have hcz9_1 : w7.cell? ⟨gb269, 1, none⟩ = some (.int .i64 0) := (blk_cell BK269.out 1).trans rfl; have hcz9_2 : w7.cell? ⟨gb269, 2, none⟩ = some (.slice none 0 0) := (blk_cell BK269.out 2).trans rfl; have hfz9_0 := blk_frozen BK269.out 0; have hfz9_1 := blk_frozen BK269.out 1; have hfz9_2 := blk_frozen BK269.out 2))
    go_loopg [6] k (fun kq v6 w' => ∃ (x6_1 : Int) (x270002_1 : List Bool) (u270002 : Value), v6 = .int .i64 x6_1 ∧ Aside0 (barscanref47_Glyph.l0 kq t268 x6_1 5 7 x270002_1 = some (r1, r2, r3, r4)) ∧ Aside0 (kq ≤ k) ∧ Aside0 (Kd.R Kd.bool 4 w' w.heap.size (fun _ => True) u270002 x270002_1) ∧ Aside0 (w'.heap[gb267]? = some (.cells #[.int .i64 0, .int .i64 0, (.slice none 0 0)] 24 (0, 0))) ∧ Aside0 (w'.heap[gb269]? = some (.cells #[.int .i64 5, .int .i64 7, u270002] 24 (0, 0))) ∧ Aside0 (Below w.heap.size w w'))
    case atStart => exact ⟨(0), (([] : List Bool)), (.slice none 0 0), (by first | rfl | (simp; done) | (simp [*]; done)), H', ⟨Nat.le_refl _⟩, ⟨by first | exact Kd.R_nil _ _ _ _ _ | exact Kd.N_nil _ _ _ _ _ | exact Kd.V_nil _ _ _ _ _ | exact Kd.Q_nil _ _ _ _ _ | exact Kd.S_nil _ _ _ _ _⟩, ⟨bky BK267 NB267_269⟩, ⟨by refine bkt ?_; refine blk_put (cs := #[.int .i64 5, .int .i64 7, .slice none 0 0]) ?_ 2 _ rfl; refine bkt ?_; refine blk_put (cs := #[.int .i64 5, .int .i64 0, .slice none 0 0]) ?_ 1 _ rfl; refine bkt ?_; refine blk_put (cs := #[.int .i64 0, .int .i64 0, .slice none 0 0]) ?_ 0 _ rfl; refine bkt ?_; exact BK269.out⟩, ⟨hb2 HB GE267 GE269⟩⟩
    case round =>
      clear H'
      try clear c1
      try clear p2
      try clear c3
      try clear c3b0
      try clear c3b1
      try clear c8
      try clear hcz5_0
      try clear hcz5_1
      try clear hcz5_2
      try clear hcz9_0
      try clear hcz9_1
      try clear hcz9_2
      try clear hfz5_0
      try clear hfz5_1
      try clear hfz5_2
      try clear hfz9_0
      try clear hfz9_1
      try clear hfz9_2
      obtain ⟨x6_1, x270002_1, u270002, rfl, HA, HK1, HO_270002, BK267, BK269, HB⟩ := hrel
      cases gk with
      | zero => exact absurd HA.out (by simp [barscanref47_Glyph.l0])
      | succ k1 =>
        have H := HA.out
        clear HA
        simp only [barscanref47_Glyph.l0] at H
        by_cases c10 : x6_1 < (t268.size : Int)
        · rw [if_pos c10] at H
          have c10b0 : decide (x6_1 < (t268.size : Int)) = true := decide_eq_true c10
          clear c10
          by_cases c11 : 0 ≤ x6_1
          · rw [if_pos c11] at H
            have c11b0 : decide (0 ≤ x6_1) = true := decide_eq_true c11
            clear c11
            by_cases c13 : (bt t268 x6_1) = 32
            · rw [if_pos c13] at H
              have c13b0 : ((bt t268 x6_1) == 32) = true := beq_iff_eq.mpr c13
              have c13b1 : ((bt t268 x6_1) != 32) = false := bne_eq_false_iff_eq.mpr c13
              clear c13
              have H' := Aside0.mk H
              clear H
              have p12 : 0 ≤ (x6_1 : Int) := of_decide_eq_true (by first | (with_reducible assumption) | assumption)
              have q12 : x6_1 < (t268.size : Int) := of_decide_eq_true (by first | (with_reducible assumption) | assumption)
              have hx12 := bt_at t268 x6_1
              replace p12 := eq_true p12
              replace q12 := eq_true q12
              go_wp2
              go_roundg k1
              case measure => have := HK1.out; omega
              case rel => exact ⟨(wrap64 (x6_1 + 1)), (x270002_1), (u270002), (by first | rfl | (simp; done) | (simp [*]; done)), H', ⟨by have := HK1.out; omega⟩, ⟨rkx HO_270002⟩, ⟨bkx BK267⟩, ⟨bkx BK269⟩, ⟨hb2 HB GE267 GE269⟩⟩
            · rw [if_neg c13] at H
              have c13b0 : ((bt t268 x6_1) == 32) = false := beq_eq_false_iff_ne.mpr c13
              have c13b1 : ((bt t268 x6_1) != 32) = true := bne_iff_ne.mpr c13
              by_cases c15 : x270002_1.length < 140737488355328
              · rw [if_pos c15] at H
                have LMc15 := Aside0.mk c15
                clear c15
                obtain ⟨y270, hy270⟩ : ∃ y_ : List Bool, y_ = (x270002_1 ++ [((bt t268 x6_1) == 49)]) := ⟨_, rfl⟩
                replace H : (barscanref47_Glyph.l0 k1 t268 (wrap64 (x6_1 + 1)) 5 7 y270) = some (r1, r2, r3, r4) := by first | (rw [hy270]; with_reducible exact H) | (have H2_ := (Option.bind_some _ _).symm.trans H; rw [hy270]; with_reducible exact H2_) | (have H2_ := (Option.bind_some _ _).symm.trans H; with_reducible exact H2_) | with_reducible exact H | (rw [hy270]; exact H) | exact H
                have Ny270 := Aside0.mk hy270
                clear hy270
                have H' := Aside0.mk H
                clear H
                have p12 : 0 ≤ (x6_1 : Int) := of_decide_eq_true (by first | (with_reducible assumption) | assumption)
                have q12 : x6_1 < (t268.size : Int) := of_decide_eq_true (by first | (with_reducible assumption) | assumption)
                have hx12 := bt_at t268 x6_1
                replace p12 := eq_true p12
                replace q12 := eq_true q12
                try go_wp2
                have n0_ := Aside0.mk (Kd.R_drew HO_270002.out)
                have n1_ := Aside0.mk (blk_drew BK267.out)
                have n2_ := Aside0.mk (blk_drew BK269.out)
                have n3_ := Aside0.mk (below_drew1 HB.out)
                clear HO_270002
                clear BK267
                clear BK269
                clear HB
                have HO_270002 := n0_
                have BK267 := n1_
                have BK269 := n2_
                have HB := n3_
                clear n0_ n1_ n2_ n3_
                have p14 : 0 ≤ (x6_1 : Int) := of_decide_eq_true (by first | (with_reducible assumption) | assumption)
                have q14 : x6_1 < (t268.size : Int) := of_decide_eq_true (by first | (with_reducible assumption) | assumption)
                have hx14 := bt_at t268 x6_1
                replace p14 := eq_true p14
                replace q14 := eq_true q14
                refine start_ (n := 10) (S := fun w' => w'.cell? ⟨gb269, 0, none⟩ = some (.int .i64 5) ∧ w'.cell? ⟨gb269, 1, none⟩ = some (.int .i64 7) ∧ w'.cell? ⟨gb269, 2, none⟩ = some (u270002)) (ds := [9]) (bA 10 0) (by kernel_rfl) rfl rfl ⟨(blk_cell BK269.out 0).trans rfl, (blk_cell BK269.out 1).trans rfl, (blk_cell BK269.out 2).trans rfl⟩ (fun hHeld => ?_); refine with_tabW barscanref47_Glyph.tab9 barscanref47_Glyph.bits9 (fun HT_ HW_ => ?_)
                generalize wr.drew = w16 at HO_270002 BK267 BK269 HB hHeld ⊢
                refine pt HT_ 0 23 ?_
                refine pt HT_ 2 25 ?_
                refine pt HT_ 3 26 ?_
                refine tk HT_ HW_ hHeld 1 24 ?_
                refine tk HT_ HW_ hHeld 4 27 ?_
                refine pt HT_ 5 28 ?_
                refine one_ (i := 6) (N := some 29) (bA 10 127) rfl rfl (one_of HT_.out (by kernel_rfl)) (by decide) (fun K hK => ?_)
                refine value_ (w1 := ?_) (v := ?_) (by rfl) rfl ?_ ?_
                rotate_left 2
                · go_simp
                  constructor
                  · rfl
                  · rfl
                refine hK.out _ _ ⟨(blk_cell (blk_alloc BK269.out _) 0).trans rfl, (blk_cell (blk_alloc BK269.out _) 1).trans rfl, (blk_cell (blk_alloc BK269.out _) 2).trans rfl⟩ (fun hHeld => ?_)
                clear hK K
                refine norm_ (a' := ?_) ?_ ?_
                rotate_left
                · show Act.put _ (some 29) _ = _
                  simp only [Act.put, List.setIfInBounds_toArray, List.set_cons_zero, List.set_cons_succ, i64_w, i32_w]
                  rfl
                refine one_ (i := 7) (N := some 30) (bA 10 255) rfl rfl (one_of HT_.out (by kernel_rfl)) (by decide) (fun K hK => ?_)
                refine Kd.R_append_step Kd.bool (w0 := w) w.heap.size (by rfl) (.tmp 24) (.tmp 29) 22 4 (.bool false) 1 rfl Try.underlying22 info4 rfl (by decide) (by omega) u270002 x270002_1 ((bt t268 x6_1) == 49) [.bool ((bt t268 x6_1) == 49)] (fun _ => True) (fun _ => False) rfl rfl ?aP (fun _ hk => hk.elim) ?aF ?aO ?aB ?aS ?aL ?_
                (case aP => exact rfl)
                (case aB => exact (hb2 HB GE267 GE269))
                (case aF => exact (fun _ _ => trivial))
                (case aO => exact (rkx HO_270002))
                (case aS => exact (below_size (hb2 HB GE267 GE269)))
                (case aL => have := LMc15.out; omega)
                intro v271 w17 ho hb hg hat
                rw [← Ny270.out] at ho
                have n0_ := Aside0.mk (blk_grown (g := gb267) (o := .cells #[.int .i64 0, .int .i64 0, .slice none 0 0] 24 (0, 0)) (bkx BK267) hg (Kd.R_ne HO_270002.out BK267.out (by decide)))
                have n1_ := Aside0.mk (blk_grown (g := gb269) (o := .cells #[.int .i64 5, .int .i64 7, u270002] 24 (0, 0)) (bkx BK269) hg (Kd.R_ne HO_270002.out BK269.out (by decide)))
                have n2_ := Aside0.mk (hb)
                have n3_ := Aside0.mk (ho)
                clear BK267
                clear BK269
                clear HB
                clear HO_270002
                have BK267 := n0_
                have BK269 := n1_
                have HB := n2_
                have HO272 := n3_
                clear n0_ n1_ n2_ n3_
                clear ho hb hg hat
                obtain ⟨Ao18, co18, eo18⟩ := Kd.R_slice HO272.out
                (first | subst eo18 | (injection eo18 with f1_ f2_ f3_; have f4_ := f1_.symm; have f5_ := f3_.symm; clear f1_ f2_ f3_; subst f4_; subst f5_))
                refine hK.out _ _ ⟨(blk_cell BK269.out 0).trans rfl, (blk_cell BK269.out 1).trans rfl, (blk_cell BK269.out 2).trans rfl⟩ (fun hHeld => ?_)
                clear hK K
                refine norm_ (a' := ?_) ?_ ?_
                rotate_left
                · show Act.put _ (some 30) _ = _
                  simp only [Act.put, List.setIfInBounds_toArray, List.set_cons_zero, List.set_cons_succ, i64_w, i32_w]
                  rfl
                refine pt HT_ 8 31 ?_
                refine last_ (i := 9) (N := none) (bA 10 1023) rfl rfl (one_of HT_.out (by kernel_rfl)) (by decide) (fun K hK => ?_)
                have hs19 : w17.cell? ⟨gb269, 2, none⟩ = some (u270002) := (blk_cell BK269.out 2).trans rfl
                have hfs19 := blk_frozen BK269.out 2
                have hns19_0 := NB267_269.out
                have hms19_0 := NB269_267.out
                refine skip_ (w1 := ?_) (by rfl) rfl ?_ ?_
                rotate_left
                · go_simp
                  rfl
                refine hK.out _ _ ?_
                clear hK K
                refine done_ (done_of HT_.out (by kernel_rfl)) ?_
                try go_wp2
                go_roundg k1
                case measure => have := HK1.out; omega
                case rel => exact ⟨(wrap64 (x6_1 + 1)), (y270), (.slice Ao18 y270.length co18), (by first | rfl | (simp; done) | (simp [*]; done)), H', ⟨by have := HK1.out; omega⟩, ⟨by refine rkt ?_; exact Kd.R_mono (Kd.R_far (p := ⟨gb269, 2, none⟩) (Kd.R_types HO272.out BK269.out (by decide)) (fun _ hk => hk.2) (.slice Ao18 y270.length co18)) (fun _ hk => trivial)⟩, ⟨bky BK267 NB267_269⟩, ⟨by refine bkt ?_; refine blk_put (cs := #[.int .i64 5, .int .i64 7, u270002]) ?_ 2 _ rfl; refine bkt ?_; exact BK269.out⟩, ⟨hb2 HB GE267 GE269⟩⟩
              · rw [if_neg c15] at H
                exact absurd H (by simp)
          · rw [if_neg c11] at H
            exact absurd H (by simp)
        · rw [if_neg c10] at H
          have c10b0 : decide (x6_1 < (t268.size : Int)) = false := decide_eq_false c10
          clear c10
          simp only [Option.some.injEq, Prod.mk.injEq] at H
          obtain ⟨rfl, rfl, rfl, rfl⟩ := H
          have hnb20 := NB269_267.out
          have hnc20 := NB267_269.out
          have hcz21_0 : wr.cell? ⟨gb269, 0, none⟩ = some (.int .i64 5) := (blk_cell BK269.out 0).trans rfl
          have hcz21_1 : wr.cell? ⟨gb269, 1, none⟩ = some (.int .i64 7) := (blk_cell BK269.out 1).trans rfl
          have hcz21_2 : wr.cell? ⟨gb269, 2, none⟩ = some (u270002) := (blk_cell BK269.out 2).trans rfl
          have hfz21_0 := blk_frozen BK269.out 0
          have hfz21_1 := blk_frozen BK269.out 1
          have hfz21_2 := blk_frozen BK269.out 2
          have hcz22_0 : wr.cell? ⟨gb267, 0, none⟩ = some (.int .i64 0) := (blk_cell BK267.out 0).trans rfl
          have hcz22_1 : wr.cell? ⟨gb267, 1, none⟩ = some (.int .i64 0) := (blk_cell BK267.out 1).trans rfl
          have hcz22_2 : wr.cell? ⟨gb267, 2, none⟩ = some (.slice none 0 0) := (blk_cell BK267.out 2).trans rfl
          have hfz22_0 := blk_frozen BK267.out 0
          have hfz22_1 := blk_frozen BK267.out 1
          have hfz22_2 := blk_frozen BK267.out 2
          obtain ⟨Ao23, co23, eo23⟩ := Kd.R_slice HO_270002.out
          subst eo23
          go_wp2
          refine bodyPost_ret (results_ct rfl _ _ gb267 24 #[.int .i64 5, .int .i64 7, .slice Ao23 x270002_1.length co23] (0, 0) _ rfl (by refine bkt ?_; refine blk_put (cs := #[.int .i64 5, .int .i64 7, .slice none 0 0]) ?_ 2 _ rfl; refine bkt ?_; refine blk_put (cs := #[.int .i64 5, .int .i64 0, .slice none 0 0]) ?_ 1 _ rfl; refine bkt ?_; refine blk_put (cs := #[.int .i64 0, .int .i64 0, .slice none 0 0]) ?_ 0 _ rfl; refine bkt ?_; exact BK267.out) Try.underlying24 rfl (by kernel_rfl)) rfl ?_
          exact ⟨_, by first | rfl | (simp [errW_none, errW_some] <;> rfl) | (simp [*, errW_none, errW_some] <;> rfl), by refine rkt ?_; exact Kd.R_mono (Kd.R_far (p := ⟨gb267, 2, none⟩) (Kd.R_far (p := ⟨gb267, 1, none⟩) (Kd.R_far (p := ⟨gb267, 0, none⟩) (Kd.R_types HO_270002.out BK267.out (by decide)) (fun _ hk => hk.2) (.int .i64 5)) (fun _ hk => hk.2) (.int .i64 7)) (fun _ hk => hk.2) (.slice Ao23 x270002_1.length co23)) (fun _ hk => trivial), by repeat (first | (with_reducible first | exact HB.out | apply below_alloc | apply pw_below_drewN | apply below_drew1 | refine below_set ?_ GE267.out | refine below_set ?_ GE269.out) | exact HB.out)⟩

end Go.Proofs.Ytghfcdgdbdeomaa.PR
