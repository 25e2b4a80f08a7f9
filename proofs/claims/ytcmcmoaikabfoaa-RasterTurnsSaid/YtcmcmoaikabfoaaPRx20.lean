-- Written by this session's own program (myprint.py).
import Derived.Test.YtcmcmoaikabfoaaPRx0
import Derived.Test.YtcmcmoaikabfoaaPRx17
import Derived.Test.YtcmcmoaikabfoaaPRx19
namespace Go.Proofs.Ytcmcmoaikabfoaa.PR
open Go.RowKit Go.Proofs.YtcmcmoaikabfoaaW.PrintWords Go.Proofs.YtcmcmoaikabfoaaW.PrintLast Go.Proofs.YtcmcmoaikabfoaaW.PrintMore Go.Proofs.Ytcmcmoaikabfoaa.XWords Go.Proofs.Ytcmcmoaikabfoaa.XShort
attribute [local go_sem] max2_int min2_int max_two min_two max_three min_three max_four min_four   -- for this text's walks alone
set_option linter.unusedVariables false
set_option linter.unusedSimpArgs false

/-! ### raster_TurnImage: function 40 -/
def raster_TurnImage.l0 : Nat → Int → Int → Int → Int → List Int → Option (Int × Int × List Int × Int)
  | 0, _, _, _, _, _ => none
  | k + 1, x23, x24, x687000, x687001, x687002 => if x24 < x23 then ((raster_turned_uint8.f k x687002 x687000 x687001).bind fun t687 => (raster_TurnImage.l0 k x23 (wrap64 (x24 + 1)) x687001 x687000 t687)) else (some (x687000, x687001, x687002, 0))
def raster_TurnImage.f (k : Nat) (a0_0 : Int) (a0_1 : Int) (l0_2 : List Int) (a1 : Int) : Option (Int × Int × List Int × Int) := (raster_CheckImage.f a0_0 a0_1 l0_2).bind fun t682 => (if t682 = 0 then ((slices_Clone_uint8_uint8.f l0_2).bind fun t683 => (raster_TurnImage.l0 k (Go.bits .and .i64 a1 3) 0 a0_0 a0_1 t683)) else (some (0, 0, ([] : List Int), t682)))
theorem raster_TurnImage.mono_l : ∀ k, (∀ y0 y1 y2 y3 y4, LeO (raster_TurnImage.l0 k y0 y1 y2 y3 y4) (raster_TurnImage.l0 (k + 1) y0 y1 y2 y3 y4))
  | 0 => fun _ _ _ _ _ r h => by simp [raster_TurnImage.l0] at h
  | k + 1 => by
    have ih0 := raster_TurnImage.mono_l k
    · intro y0 y1 y2 y3 y4
      unfold raster_TurnImage.l0
      repeat' first
      | (with_reducible exact ih0 _ _ _ _ _)
      | (with_reducible exact raster_turned_uint8.mono _ _ _ _)
      | (with_reducible exact LeO.refl _)
      | (with_reducible exact LeO.none _)
      | (with_reducible refine LeO.ite ?_ ?_)
      | (with_reducible refine LeO.bind ?_ (fun _ => ?_))
      | exact ih0 _ _ _ _ _
      | exact raster_turned_uint8.mono _ _ _ _
      | exact LeO.none _
      | refine LeO.ite ?_ ?_
      | refine LeO.bind ?_ (fun _ => ?_)
theorem raster_TurnImage.mono : ∀ a0 a1 a2 a3 k, LeO (raster_TurnImage.f k a0 a1 a2 a3) (raster_TurnImage.f (k + 1) a0 a1 a2 a3) := by
  intro a0 a1 a2 a3 k
  have ih0 := raster_TurnImage.mono_l k
  unfold raster_TurnImage.f
  repeat' first
      | (with_reducible exact ih0 _ _ _ _ _)
      | (with_reducible exact raster_turned_uint8.mono _ _ _ _)
      | (with_reducible exact LeO.refl _)
      | (with_reducible exact LeO.none _)
      | (with_reducible refine LeO.ite ?_ ?_)
      | (with_reducible refine LeO.bind ?_ (fun _ => ?_))
      | exact ih0 _ _ _ _ _
      | exact raster_turned_uint8.mono _ _ _ _
      | exact LeO.none _
      | refine LeO.ite ?_ ?_
      | refine LeO.bind ?_ (fun _ => ?_)
def raster_TurnImage.T4 : Bool × List (List Nat × List Nat) := (true, [([], []), ([0], [0]), ([], []), ([2], [2]), ([], []), ([4], [4]), ([5], [5]), ([1, 3, 6], [1, 3, 6]), ([], []), ([8, 7, 6, 0, 1, 2, 3, 4, 5, 6, 7, 8], [7, 8])])
def raster_TurnImage.B4 : List Nat := [0, 1, 0, 4, 0, 16, 48, 127, 0, 511]
theorem raster_TurnImage.tab4 : rtab .any (opsOf Try.f40 4) = raster_TurnImage.T4 := by kernel_rfl
theorem raster_TurnImage.bits4 : waitsOk raster_TurnImage.T4.2 raster_TurnImage.B4 = true := by kernel_rfl
def raster_TurnImage.T7 : Bool × List (List Nat × List Nat) := (true, [([], []), ([0], [0]), ([], []), ([2], [2]), ([], []), ([4], [4]), ([], []), ([6], [6]), ([], []), ([8], [8]), ([5, 7, 9], [5, 7, 9]), ([1, 3, 10], [1, 3, 10]), ([11, 10, 0, 1, 2, 3, 4, 5, 6, 7, 8, 9, 10, 11], [11])])
def raster_TurnImage.B7 : List Nat := [0, 1, 0, 4, 0, 16, 0, 64, 0, 256, 1008, 2047, 4095]
theorem raster_TurnImage.tab7 : rtab .any (opsOf Try.f40 7) = raster_TurnImage.T7 := by kernel_rfl
theorem raster_TurnImage.bits7 : waitsOk raster_TurnImage.T7.2 raster_TurnImage.B7 = true := by kernel_rfl
set_option maxHeartbeats 8000000 in
set_option maxRecDepth 100000 in
theorem raster_TurnImage.calls (k : Nat) (a0_0 : Int) (a0_1 : Int) (A0_2 : Option Addr) (c0_2 : Nat) (l0_2 : List Int) (a1 : Int) (r1 : Int) (r2 : Int) (r3 : List Int) (r4 : Int) (w : World) (hr0_2 : Kd.C (Kd.int .u8) w A0_2 l0_2.length l0_2) (hc0_2 : l0_2.length ≤ c0_2) (h : raster_TurnImage.f k a0_0 a0_1 l0_2 a1 = some (r1, r2, r3, r4)) :
    Calls Try.prog 40 #[.agg #[.int .i64 a0_0, .int .i64 a0_1, .slice A0_2 l0_2.length c0_2], .int .i64 a1] w fun e w' => ∃ v2_ : Value, e = .returned (.tuple #[.agg #[.int .i64 r1, .int .i64 r2, v2_], .int .i64 r4]) ∧ Kd.R (Kd.int .u8) 5 w' w.heap.size (fun _ => True) v2_ r3 ∧ Below w.heap.size w w' := by
  have hu58 := Try.underlying58
  have HR0_2 := Aside0.mk hr0_2
  have HC0_2 := Aside0.mk hc0_2
  clear hr0_2 hc0_2
  have HB := Aside0.mk (Below.refl w.heap.size w)
  have H : ((raster_CheckImage.f a0_0 a0_1 l0_2).bind fun t682 => (if t682 = 0 then ((slices_Clone_uint8_uint8.f l0_2).bind fun t683 => (raster_TurnImage.l0 k (Go.bits .and .i64 a1 3) 0 a0_0 a0_1 t683)) else (some (0, 0, ([] : List Int), t682)))) = some (r1, r2, r3, r4) := h
  clear h
  replace H := Option.bind_eq_some_iff.mp H
  obtain ⟨t682, A30, H⟩ := H
  replace H : (if t682 = 0 then ((slices_Clone_uint8_uint8.f l0_2).bind fun t683 => (raster_TurnImage.l0 k (Go.bits .and .i64 a1 3) 0 a0_0 a0_1 t683)) else (some (0, 0, ([] : List Int), t682))) = some (r1, r2, r3, r4) := H
  have A3 := Aside0.mk A30
  clear A30
  by_cases c4 : t682 = 0
  · rw [if_pos c4] at H
    have c4b0 : (t682 == 0) = true := beq_iff_eq.mpr c4
    have c4b1 : (t682 != 0) = false := bne_eq_false_iff_eq.mpr c4
    clear c4
    replace H := Option.bind_eq_some_iff.mp H
    obtain ⟨t683, A50, H⟩ := H
    replace H : (raster_TurnImage.l0 k (Go.bits .and .i64 a1 3) 0 a0_0 a0_1 t683) = some (r1, r2, r3, r4) := H
    have A5 := Aside0.mk A50
    clear A50
    have H' := Aside0.mk H
    clear H
    go_enter Try.func40, Try.ntmps40
    try go_wp2_with (first | ((with_reducible refine gate_dst (N := 2) rfl ?_); refine box_event ?hg (N := 2) ?hd (cs := #[.int .i64 a0_0, .int .i64 a0_1, .slice A0_2 l0_2.length c0_2]) (t := 58) ?hr ?_; (case hd => rfl); (case hg => rfl); (case hr => first | (go_simp; done) | (go_simp; rfl)); intro gb680 hg w6 hbox hb; have n0_ := Aside0.mk (below_step (hb0 HB) hb); have n1_ := Aside0.mk (hbox); have n2_ := Aside0.mk ((by rw [hg]; exact (below_size (hb0 HB)) : w.heap.size ≤ gb680)); have n3_ := Aside0.mk ((by rw [hg]; exact (below_size (hb0 HB)) : w.heap.size ≤ gb680)); clear HB; have HB := n0_; have BK680 := n1_; have GW680 := n2_; have GE680 := n3_; clear n0_ n1_ n2_ n3_; clear hb hbox hg) | ((with_reducible refine gate_dst (N := 4) rfl ?_); refine box_event ?hg (N := 4) ?hd (cs := #[.int .i64 0, .int .i64 0, .slice none 0 0]) (t := 58) ?hr ?_; (case hd => rfl); (case hg => rfl); (case hr => first | (go_simp; done) | (go_simp; rfl)); intro gb681 hg w7 hbox hb; have n0_ := Aside0.mk (blk_below (bkx BK680) hb); have n1_ := Aside0.mk (below_step (hb1 HB GE680) hb); have n2_ := Aside0.mk (hbox); have n3_ := Aside0.mk ((by rw [hg]; exact (below_size (hb1 HB GE680)) : w.heap.size ≤ gb681)); have n4_ := Aside0.mk ((by rw [hg]; exact (below_size (hb1 HB GE680)) : w.heap.size ≤ gb681)); have n5_ := Aside0.mk (nel hg BK680 : gb680 ≠ gb681); have n6_ := Aside0.mk (neg hg BK680 : gb681 ≠ gb680); clear BK680; clear HB; have BK680 := n0_; have HB := n1_; have BK681 := n2_; have GW681 := n3_; have GE681 := n4_; have NB680_681 := n5_; have NB681_680 := n6_; clear n0_ n1_ n2_ n3_ n4_ n5_ n6_; clear hb hbox hg; have hnb8 := NB680_681.out; have hnc8 := NB681_680.out; have hcz9_0 : w7.cell? ⟨gb680, 0, none⟩ = some (.int .i64 a0_0) := (blk_cell BK680.out 0).trans rfl; have hcz9_1 : w7.cell? ⟨gb680, 1, none⟩ = some (.int .i64 a0_1) := (blk_cell BK680.out 1).trans rfl; have hcz9_2 : w7.cell? ⟨gb680, 2, none⟩ = some (.slice A0_2 l0_2.length c0_2) := (blk_cell BK680.out 2).trans rfl; have hfz9_0 := blk_frozen BK680.out 0; have hfz9_1 := blk_frozen BK680.out 1; have hfz9_2 := blk_frozen BK680.out 2) | ((with_reducible refine gate_callee (f := 32) rfl ?_); refine goesL_ (some 9) rfl rfl Try.func32 (by kernel_rfl) rfl #[.agg #[.int .i64 a0_0, .int .i64 a0_1, .slice A0_2 l0_2.length c0_2]] rfl mapx ?_; (with_reducible refine (raster_CheckImage.calls a0_0 a0_1 _ _ l0_2 t682 _ ?side1 ?side2 A3.out).mono ?_); (case side1 => repeat (first | exact (Kd.C_below HR0_2.out HB.out) | (with_reducible refine Kd.C_alloc ?_ _) | (with_reducible refine Kd.C_drewN ?_ _) | (with_reducible refine Kd.C_drew ?_))); (case side2 => exact HC0_2.out); rintro e w10 ⟨rfl, hb⟩; refine ⟨_, rfl, ?_⟩; have n0_ := Aside0.mk (blk_below (bkx BK680) hb); have n1_ := Aside0.mk (blk_below (bkx BK681) hb); have n2_ := Aside0.mk (below_step (hb2 HB GE680 GE681) hb); clear BK680; clear BK681; clear HB; have BK680 := n0_; have BK681 := n1_; have HB := n2_; clear n0_ n1_ n2_; (try clear hb); (try clear hb2); (try clear hk); (try clear hi)))
    have n0_ := Aside0.mk (blk_drew BK680.out)
    have n1_ := Aside0.mk (blk_drew BK681.out)
    have n2_ := Aside0.mk (below_drew1 HB.out)
    clear BK680
    clear BK681
    clear HB
    have BK680 := n0_
    have BK681 := n1_
    have HB := n2_
    clear n0_ n1_ n2_
    refine start_ (n := 10) (S := fun w' => w'.cell? ⟨gb680, 0, none⟩ = some (.int .i64 a0_0) ∧ w'.cell? ⟨gb680, 1, none⟩ = some (.int .i64 a0_1) ∧ w'.cell? ⟨gb680, 2, none⟩ = some (.slice A0_2 l0_2.length c0_2)) (ds := []) #[false, false, false, false, false, false, false, false, false, false] (by kernel_rfl) rfl rfl ⟨(blk_cell BK680.out 0).trans rfl, (blk_cell BK680.out 1).trans rfl, (blk_cell BK680.out 2).trans rfl⟩ (fun hHeld => ?_); refine with_tabW raster_TurnImage.tab4 raster_TurnImage.bits4 (fun HT_ HW_ => ?_)
    generalize w10.drew = w11 at BK680 BK681 HB hHeld ⊢
    refine pure_ (i := 0) (N := some 14) (v := ?_) (a' := ?_) #[true, false, false, false, false, false, false, false, false, false] rfl rfl (any_of HT_.out (by kernel_rfl)) (fun _ _ _ h => h) (Or.inl ⟨by rfl, ?_⟩) ?_ ?_
    rotate_left
    · intro w'
      go_simp
      with_reducible rfl
    rotate_left
    · simp only [Act.put, List.setIfInBounds_toArray, List.set_cons_zero, List.set_cons_succ, i64_w, i32_w]
      rfl
    refine pure_ (i := 2) (N := some 16) (v := ?_) (a' := ?_) #[true, false, true, false, false, false, false, false, false, false] rfl rfl (any_of HT_.out (by kernel_rfl)) (fun _ _ _ h => h) (Or.inl ⟨by rfl, ?_⟩) ?_ ?_
    rotate_left
    · intro w'
      go_simp
      with_reducible rfl
    rotate_left
    · simp only [Act.put, List.setIfInBounds_toArray, List.set_cons_zero, List.set_cons_succ, i64_w, i32_w]
      rfl
    refine pure_ (i := 4) (N := some 18) (v := ?_) (a' := ?_) #[true, false, true, false, true, false, false, false, false, false] rfl rfl (any_of HT_.out (by kernel_rfl)) (fun _ _ _ h => h) (Or.inl ⟨by rfl, ?_⟩) ?_ ?_
    rotate_left
    · intro w'
      go_simp
      with_reducible rfl
    rotate_left
    · simp only [Act.put, List.setIfInBounds_toArray, List.set_cons_zero, List.set_cons_succ, i64_w, i32_w]
      rfl
    refine take_ (i := 1) (N := some 15) (v := ?_) (a' := ?_) #[true, true, true, false, true, false, false, false, false, false] rfl rfl (take_ofW HT_.out HW_.out (by kernel_rfl)) (fun _ _ _ h => h) (Or.inl ⟨by rfl, ?_⟩) hHeld ?_ ?_
    rotate_left
    · rintro w' ⟨s0, s1, s2⟩
      go_simp
      with_reducible rfl
    rotate_left
    · simp only [Act.put, List.setIfInBounds_toArray, List.set_cons_zero, List.set_cons_succ, i64_w, i32_w]
      rfl
    refine take_ (i := 3) (N := some 17) (v := ?_) (a' := ?_) #[true, true, true, true, true, false, false, false, false, false] rfl rfl (take_ofW HT_.out HW_.out (by kernel_rfl)) (fun _ _ _ h => h) (Or.inl ⟨by rfl, ?_⟩) hHeld ?_ ?_
    rotate_left
    · rintro w' ⟨s0, s1, s2⟩
      go_simp
      with_reducible rfl
    rotate_left
    · simp only [Act.put, List.setIfInBounds_toArray, List.set_cons_zero, List.set_cons_succ, i64_w, i32_w]
      rfl
    refine take_ (i := 5) (N := some 19) (v := ?_) (a' := ?_) #[true, true, true, true, true, true, false, false, false, false] rfl rfl (take_ofW HT_.out HW_.out (by kernel_rfl)) (fun _ _ _ h => h) (Or.inl ⟨by rfl, ?_⟩) hHeld ?_ ?_
    rotate_left
    · rintro w' ⟨s0, s1, s2⟩
      go_simp
      with_reducible rfl
    rotate_left
    · simp only [Act.put, List.setIfInBounds_toArray, List.set_cons_zero, List.set_cons_succ, i64_w, i32_w]
      rfl
    refine join_ (σ := Value × Nat) 1 #[true, true, true, true, true, true, true, true, true, false] (fun s_ => [(20, s_.1), (7, .pointer (some ⟨s_.2, 0, none⟩)), (21, .agg #[.int .i64 a0_0, .int .i64 a0_1, s_.1])]) (fun s_ w' => (w'.cell? ⟨gb680, 0, none⟩ = some (.int .i64 a0_0) ∧ w'.cell? ⟨gb680, 1, none⟩ = some (.int .i64 a0_1) ∧ w'.cell? ⟨gb680, 2, none⟩ = some (.slice A0_2 l0_2.length c0_2)) ∧ (Kd.R (Kd.int .u8) 5 w' w.heap.size (fun _ => True) s_.1 t683) ∧ (w'.heap[gb680]? = some (.cells #[.int .i64 a0_0, .int .i64 a0_1, .slice A0_2 l0_2.length c0_2] 58 (0, 0))) ∧ (w'.heap[gb681]? = some (.cells #[.int .i64 0, .int .i64 0, .slice none 0 0] 58 (0, 0))) ∧ (w'.heap[s_.2]? = some (.cells #[.int .i64 0, .int .i64 0, .slice none 0 0] 58 (0, 0))) ∧ (w.heap.size ≤ s_.2) ∧ (w.heap.size ≤ s_.2) ∧ (gb680 ≠ s_.2) ∧ (s_.2 ≠ gb680) ∧ (gb681 ≠ s_.2) ∧ (s_.2 ≠ gb681) ∧ (Below w.heap.size w w')) ?_ ?_
    rotate_left
    · intro hCont
      refine two_ (i := 6) (j := 8) (Ni := some 20) (Nj := some 7) #[true, true, true, true, true, true, true, false, false, false] #[true, true, true, true, true, true, false, false, true, false] rfl rfl rfl rfl (two_of HT_.out (by kernel_rfl)) (by decide) (by decide) (fun K hK => ?_) (fun K hK => ?_)
      · skip
        refine goes_ Try.func60 (by kernel_rfl) rfl #[.slice A0_2 l0_2.length c0_2] (by rfl) rfl rfl mapx ?_
        with_reducible refine (slices_Clone_uint8_uint8.calls _ _ l0_2 t683 _ ?side1 ?side2 A5.out).mono ?_
        (case side1 => repeat (first | exact (Kd.C_below HR0_2.out HB.out) | (with_reducible refine Kd.C_alloc ?_ _) | (with_reducible refine Kd.C_drewN ?_ _) | (with_reducible refine Kd.C_drew ?_)))
        (case side2 => exact HC0_2.out)
        rintro e w12 ⟨v684, rfl, ho0, hb⟩
        refine ⟨_, rfl, ?_⟩
        have n0_ := Aside0.mk (Kd.R_lower ho0 (below_size (hb2 HB GE680 GE681)))
        have n1_ := Aside0.mk (blk_below (bkx BK680) hb)
        have n2_ := Aside0.mk (blk_below (bkx BK681) hb)
        have n3_ := Aside0.mk (below_step (hb2 HB GE680 GE681) hb)
        clear BK680
        clear BK681
        clear HB
        have HO685 := n0_
        have BK680 := n1_
        have BK681 := n2_
        have HB := n3_
        clear n0_ n1_ n2_ n3_
        (try clear hb)
        (try clear hb2)
        (try clear hk)
        (try clear hi)
        (try clear ho0)
        obtain ⟨Ao13, co13, eo13⟩ := Kd.R_slice HO685.out
        (first | subst eo13 | (injection eo13 with f1_ f2_ f3_; have f4_ := f1_.symm; have f5_ := f3_.symm; clear f1_ f2_ f3_; subst f4_; subst f5_))
        refine hK.out _ _ ⟨(blk_cell BK680.out 0).trans rfl, (blk_cell BK680.out 1).trans rfl, (blk_cell BK680.out 2).trans rfl⟩ (fun hHeld => ?_)
        clear hK K
        refine norm_ (a' := ?_) ?_ ?_
        rotate_left
        · show Act.put _ (some 20) _ = _
          simp only [Act.put, List.setIfInBounds_toArray, List.set_cons_zero, List.set_cons_succ, i64_w, i32_w]
          rfl
        refine pure_ (i := 7) (N := some 21) (v := ?_) (a' := ?_) #[true, true, true, true, true, true, true, true, false, false] rfl rfl (any_of HT_.out (by kernel_rfl)) (fun _ _ _ h => h) (Or.inl ⟨by rfl, ?_⟩) ?_ ?_
        rotate_left
        · intro w'
          go_simp
          with_reducible rfl
        rotate_left
        · simp only [Act.put, List.setIfInBounds_toArray, List.set_cons_zero, List.set_cons_succ, i64_w, i32_w]
          rfl
        refine one_ (i := 8) (N := some 7) #[true, true, true, true, true, true, true, true, true, false] rfl rfl (one_of HT_.out (by kernel_rfl)) (by decide) (fun K hK => ?_)
        refine box_step ?hg (N := 7) ?hd (cs := #[.int .i64 0, .int .i64 0, .slice none 0 0]) (t := 58) ?hr ?_; (case hd => rfl); (case hg => rfl); (case hr => first | (go_simp; done) | (go_simp; rfl))
        intro gb686 hg w14 hbox hb
        have n0_ := Aside0.mk (Kd.R_below (rkx HO685) hb)
        have n1_ := Aside0.mk (blk_below (bkx BK680) hb)
        have n2_ := Aside0.mk (blk_below (bkx BK681) hb)
        have n3_ := Aside0.mk (below_step (hb2 HB GE680 GE681) hb)
        have n4_ := Aside0.mk (hbox)
        have n5_ := Aside0.mk ((by rw [hg]; exact (below_size (hb2 HB GE680 GE681)) : w.heap.size ≤ gb686))
        have n6_ := Aside0.mk ((by rw [hg]; exact (below_size (hb2 HB GE680 GE681)) : w.heap.size ≤ gb686))
        have n7_ := Aside0.mk (nel hg BK680 : gb680 ≠ gb686)
        have n8_ := Aside0.mk (neg hg BK680 : gb686 ≠ gb680)
        have n9_ := Aside0.mk (nel hg BK681 : gb681 ≠ gb686)
        have n10_ := Aside0.mk (neg hg BK681 : gb686 ≠ gb681)
        clear HO685
        clear BK680
        clear BK681
        clear HB
        have HO685 := n0_
        have BK680 := n1_
        have BK681 := n2_
        have HB := n3_
        have BK686 := n4_
        have GW686 := n5_
        have GE686 := n6_
        have NB680_686 := n7_
        have NB686_680 := n8_
        have NB681_686 := n9_
        have NB686_681 := n10_
        clear n0_ n1_ n2_ n3_ n4_ n5_ n6_ n7_ n8_ n9_ n10_
        clear hb hbox hg
        refine hK.out _ _ ⟨(blk_cell BK680.out 0).trans rfl, (blk_cell BK680.out 1).trans rfl, (blk_cell BK680.out 2).trans rfl⟩ (fun hHeld => ?_)
        clear hK K
        refine norm_ (a' := ?_) ?_ ?_
        rotate_left
        · show Act.put _ (some 7) _ = _
          simp only [Act.put, List.setIfInBounds_toArray, List.set_cons_zero, List.set_cons_succ, i64_w, i32_w]
          rfl
        exact norm_ (by simp only [putAll, Act.put, List.setIfInBounds_toArray, List.set_cons_zero, List.set_cons_succ]) (hCont (.slice Ao13 t683.length co13, gb686) _ ⟨hHeld, (rkx HO685), (bkx BK680), (bkx BK681), (bkx BK686), GW686.out, GE686.out, NB680_686.out, NB686_680.out, NB681_686.out, NB686_681.out, (hb3 HB GE680 GE681 GE686)⟩)
      · skip
        refine box_step ?hg (N := 7) ?hd (cs := #[.int .i64 0, .int .i64 0, .slice none 0 0]) (t := 58) ?hr ?_; (case hd => rfl); (case hg => rfl); (case hr => first | (go_simp; done) | (go_simp; rfl))
        intro gb686 hg w12 hbox hb
        have n0_ := Aside0.mk (blk_below (bkx BK680) hb)
        have n1_ := Aside0.mk (blk_below (bkx BK681) hb)
        have n2_ := Aside0.mk (below_step (hb2 HB GE680 GE681) hb)
        have n3_ := Aside0.mk (hbox)
        have n4_ := Aside0.mk ((by rw [hg]; exact (below_size (hb2 HB GE680 GE681)) : w.heap.size ≤ gb686))
        have n5_ := Aside0.mk ((by rw [hg]; exact (below_size (hb2 HB GE680 GE681)) : w.heap.size ≤ gb686))
        have n6_ := Aside0.mk (nel hg BK680 : gb680 ≠ gb686)
        have n7_ := Aside0.mk (neg hg BK680 : gb686 ≠ gb680)
        have n8_ := Aside0.mk (nel hg BK681 : gb681 ≠ gb686)
        have n9_ := Aside0.mk (neg hg BK681 : gb686 ≠ gb681)
        clear BK680
        clear BK681
        clear HB
        have BK680 := n0_
        have BK681 := n1_
        have HB := n2_
        have BK686 := n3_
        have GW686 := n4_
        have GE686 := n5_
        have NB680_686 := n6_
        have NB686_680 := n7_
        have NB681_686 := n8_
        have NB686_681 := n9_
        clear n0_ n1_ n2_ n3_ n4_ n5_ n6_ n7_ n8_ n9_
        clear hb hbox hg
        refine hK.out _ _ ⟨(blk_cell BK680.out 0).trans rfl, (blk_cell BK680.out 1).trans rfl, (blk_cell BK680.out 2).trans rfl⟩ (fun hHeld => ?_)
        clear hK K
        refine norm_ (a' := ?_) ?_ ?_
        rotate_left
        · show Act.put _ (some 7) _ = _
          simp only [Act.put, List.setIfInBounds_toArray, List.set_cons_zero, List.set_cons_succ, i64_w, i32_w]
          rfl
        refine one_ (i := 6) (N := some 20) #[true, true, true, true, true, true, true, false, true, false] rfl rfl (one_of HT_.out (by kernel_rfl)) (by decide) (fun K hK => ?_)
        refine goes_ Try.func60 (by kernel_rfl) rfl #[.slice A0_2 l0_2.length c0_2] (by rfl) rfl rfl mapx ?_
        with_reducible refine (slices_Clone_uint8_uint8.calls _ _ l0_2 t683 _ ?side1 ?side2 A5.out).mono ?_
        (case side1 => repeat (first | exact (Kd.C_below HR0_2.out HB.out) | (with_reducible refine Kd.C_alloc ?_ _) | (with_reducible refine Kd.C_drewN ?_ _) | (with_reducible refine Kd.C_drew ?_)))
        (case side2 => exact HC0_2.out)
        rintro e w13 ⟨v684, rfl, ho0, hb⟩
        refine ⟨_, rfl, ?_⟩
        have n0_ := Aside0.mk (Kd.R_lower ho0 (below_size (hb3 HB GE680 GE681 GE686)))
        have n1_ := Aside0.mk (blk_below (bkx BK680) hb)
        have n2_ := Aside0.mk (blk_below (bkx BK681) hb)
        have n3_ := Aside0.mk (blk_below (bkx BK686) hb)
        have n4_ := Aside0.mk (below_step (hb3 HB GE680 GE681 GE686) hb)
        clear BK680
        clear BK681
        clear BK686
        clear HB
        have HO685 := n0_
        have BK680 := n1_
        have BK681 := n2_
        have BK686 := n3_
        have HB := n4_
        clear n0_ n1_ n2_ n3_ n4_
        (try clear hb)
        (try clear hb2)
        (try clear hk)
        (try clear hi)
        (try clear ho0)
        obtain ⟨Ao14, co14, eo14⟩ := Kd.R_slice HO685.out
        (first | subst eo14 | (injection eo14 with f1_ f2_ f3_; have f4_ := f1_.symm; have f5_ := f3_.symm; clear f1_ f2_ f3_; subst f4_; subst f5_))
        refine hK.out _ _ ⟨(blk_cell BK680.out 0).trans rfl, (blk_cell BK680.out 1).trans rfl, (blk_cell BK680.out 2).trans rfl⟩ (fun hHeld => ?_)
        clear hK K
        refine norm_ (a' := ?_) ?_ ?_
        rotate_left
        · show Act.put _ (some 20) _ = _
          simp only [Act.put, List.setIfInBounds_toArray, List.set_cons_zero, List.set_cons_succ, i64_w, i32_w]
          rfl
        refine pure_ (i := 7) (N := some 21) (v := ?_) (a' := ?_) #[true, true, true, true, true, true, true, true, true, false] rfl rfl (any_of HT_.out (by kernel_rfl)) (fun _ _ _ h => h) (Or.inl ⟨by rfl, ?_⟩) ?_ ?_
        rotate_left
        · intro w'
          go_simp
          with_reducible rfl
        rotate_left
        · simp only [Act.put, List.setIfInBounds_toArray, List.set_cons_zero, List.set_cons_succ, i64_w, i32_w]
          rfl
        exact norm_ (by simp only [putAll, Act.put, List.setIfInBounds_toArray, List.set_cons_zero, List.set_cons_succ]) (hCont (.slice Ao14 t683.length co14, gb686) _ ⟨hHeld, (rkx HO685), (bkx BK680), (bkx BK681), (bkx BK686), GW686.out, GE686.out, NB680_686.out, NB686_680.out, NB681_686.out, NB686_681.out, (hb3 HB GE680 GE681 GE686)⟩)
    rintro ⟨v684, gb686⟩ w15 ⟨hS_, h0_, h1_, h2_, h3_, h4_, h5_, h6_, h7_, h8_, h9_, h10_⟩
    have n0_ : Aside0 (Kd.R (Kd.int .u8) 5 w15 w.heap.size (fun _ => True) v684 t683) := ⟨h0_⟩
    have n1_ : Aside0 (w15.heap[gb680]? = some (.cells #[.int .i64 a0_0, .int .i64 a0_1, .slice A0_2 l0_2.length c0_2] 58 (0, 0))) := ⟨h1_⟩
    have n2_ : Aside0 (w15.heap[gb681]? = some (.cells #[.int .i64 0, .int .i64 0, .slice none 0 0] 58 (0, 0))) := ⟨h2_⟩
    have n3_ : Aside0 (w15.heap[gb686]? = some (.cells #[.int .i64 0, .int .i64 0, .slice none 0 0] 58 (0, 0))) := ⟨h3_⟩
    have n4_ : Aside0 (w.heap.size ≤ gb686) := ⟨h4_⟩
    have n5_ : Aside0 (w.heap.size ≤ gb686) := ⟨h5_⟩
    have n6_ : Aside0 (gb680 ≠ gb686) := ⟨h6_⟩
    have n7_ : Aside0 (gb686 ≠ gb680) := ⟨h7_⟩
    have n8_ : Aside0 (gb681 ≠ gb686) := ⟨h8_⟩
    have n9_ : Aside0 (gb686 ≠ gb681) := ⟨h9_⟩
    have n10_ : Aside0 (Below w.heap.size w w15) := ⟨h10_⟩
    clear BK680
    clear BK681
    clear HB
    clear h0_ h1_ h2_ h3_ h4_ h5_ h6_ h7_ h8_ h9_ h10_
    have HO685 := n0_
    have BK680 := n1_
    have BK681 := n2_
    have BK686 := n3_
    have GW686 := n4_
    have GE686 := n5_
    have NB680_686 := n6_
    have NB686_680 := n7_
    have NB681_686 := n8_
    have NB686_681 := n9_
    have HB := n10_
    clear n0_ n1_ n2_ n3_ n4_ n5_ n6_ n7_ n8_ n9_ n10_
    have hHeld : w15.cell? ⟨gb680, 0, none⟩ = some (.int .i64 a0_0) ∧ w15.cell? ⟨gb680, 1, none⟩ = some (.int .i64 a0_1) ∧ w15.cell? ⟨gb680, 2, none⟩ = some (.slice A0_2 l0_2.length c0_2) := hS_
    obtain ⟨Ao16, co16, eo16⟩ := Kd.R_slice HO685.out
    (first | subst eo16 | (injection eo16 with f1_ f2_ f3_; have f4_ := f1_.symm; have f5_ := f3_.symm; clear f1_ f2_ f3_; subst f4_; subst f5_))
    refine norm_ (a' := ?_) ?_ ?_
    rotate_left
    · simp only [putAll, Act.put, List.setIfInBounds_toArray, List.set_cons_zero, List.set_cons_succ]
      rfl
    refine one_ (i := 9) (N := none) #[true, true, true, true, true, true, true, true, true, true] rfl rfl (one_of HT_.out (by kernel_rfl)) (by decide) (fun K hK => ?_)
    have hs17 : w15.cell? ⟨gb686, 0, none⟩ = some (.int .i64 0) := (blk_cell BK686.out 0).trans rfl
    have hfs17 := blk_frozen BK686.out 0
    have hns17_0 := NB680_686.out
    have hns17_1 := NB681_686.out
    have hms17_0 := NB686_680.out
    have hms17_1 := NB686_681.out
    have hs18 : w15.cell? ⟨gb686, 1, none⟩ = some (.int .i64 0) := (blk_cell BK686.out 1).trans rfl
    have hfs18 := blk_frozen BK686.out 1
    have hns18_0 := NB680_686.out
    have hns18_1 := NB681_686.out
    have hms18_0 := NB686_680.out
    have hms18_1 := NB686_681.out
    have hs19 : w15.cell? ⟨gb686, 2, none⟩ = some (.slice none 0 0) := (blk_cell BK686.out 2).trans rfl
    have hfs19 := blk_frozen BK686.out 2
    have hns19_0 := NB680_686.out
    have hns19_1 := NB681_686.out
    have hms19_0 := NB686_680.out
    have hms19_1 := NB686_681.out
    refine skip_ (w1 := ?_) (by rfl) rfl ?_ ?_
    rotate_left
    · go_simp
      rfl
    refine hK.out _ _ ⟨((cell_far (p := ⟨gb686, _, none⟩) NB680_686.out _).trans (((cell_far (p := ⟨gb686, _, none⟩) NB680_686.out _).trans (((cell_far (p := ⟨gb686, _, none⟩) NB680_686.out _).trans (hHeld.1)))))), ((cell_far (p := ⟨gb686, _, none⟩) NB680_686.out _).trans (((cell_far (p := ⟨gb686, _, none⟩) NB680_686.out _).trans (((cell_far (p := ⟨gb686, _, none⟩) NB680_686.out _).trans (hHeld.2.1)))))), ((cell_far (p := ⟨gb686, _, none⟩) NB680_686.out _).trans (((cell_far (p := ⟨gb686, _, none⟩) NB680_686.out _).trans (((cell_far (p := ⟨gb686, _, none⟩) NB680_686.out _).trans (hHeld.2.2))))))⟩ (fun hHeld => ?_)
    clear hK K
    refine done_ (done_of HT_.out (by kernel_rfl)) ?_
    try go_wp2
    go_loopg [24] k (fun kq v24 w' => ∃ (x24_1 : Int) (x687000_1 : Int) (x687001_1 : Int) (x687002_1 : List Int) (u687002 : Value), v24 = .int .i64 x24_1 ∧ Aside0 (raster_TurnImage.l0 kq (Go.bits .and .i64 a1 3) x24_1 x687000_1 x687001_1 x687002_1 = some (r1, r2, r3, r4)) ∧ Aside0 (kq ≤ k) ∧ Aside0 (Kd.R (Kd.int .u8) 5 w' w.heap.size (fun _ => True) u687002 x687002_1) ∧ Aside0 (w'.heap[gb680]? = some (.cells #[.int .i64 a0_0, .int .i64 a0_1, (.slice A0_2 l0_2.length c0_2)] 58 (0, 0))) ∧ Aside0 (w'.heap[gb681]? = some (.cells #[.int .i64 0, .int .i64 0, (.slice none 0 0)] 58 (0, 0))) ∧ Aside0 (w'.heap[gb686]? = some (.cells #[.int .i64 x687000_1, .int .i64 x687001_1, u687002] 58 (0, 0))) ∧ Aside0 (Below w.heap.size w w'))
    case atStart => exact ⟨(0), (a0_0), (a0_1), (t683), (.slice Ao16 t683.length co16), (by first | rfl | (simp; done) | (simp [*]; done)), H', ⟨Nat.le_refl _⟩, ⟨by refine rkt ?_; exact Kd.R_mono (Kd.R_far (p := ⟨gb686, 2, none⟩) (Kd.R_far (p := ⟨gb686, 1, none⟩) (Kd.R_far (p := ⟨gb686, 0, none⟩) (Kd.R_types HO685.out BK686.out (by decide)) (fun _ hk => hk.2) (.int .i64 a0_0)) (fun _ hk => hk.2) (.int .i64 a0_1)) (fun _ hk => hk.2) (.slice Ao16 t683.length co16)) (fun _ hk => trivial)⟩, ⟨bky BK680 NB680_686⟩, ⟨bky BK681 NB681_686⟩, ⟨by refine bkt ?_; refine blk_put (cs := #[.int .i64 a0_0, .int .i64 a0_1, .slice none 0 0]) ?_ 2 _ rfl; refine bkt ?_; refine blk_put (cs := #[.int .i64 a0_0, .int .i64 0, .slice none 0 0]) ?_ 1 _ rfl; refine bkt ?_; refine blk_put (cs := #[.int .i64 0, .int .i64 0, .slice none 0 0]) ?_ 0 _ rfl; refine bkt ?_; exact BK686.out⟩, ⟨hb3 HB GE680 GE681 GE686⟩⟩
    case round =>
      clear H'
      try clear p2
      try clear c3
      try clear c4
      try clear c4b0
      try clear c4b1
      try clear c6
      try clear c8
      try clear hcz9_0
      try clear hcz9_1
      try clear hcz9_2
      try clear hfz9_0
      try clear hfz9_1
      try clear hfz9_2
      obtain ⟨x24_1, x687000_1, x687001_1, x687002_1, u687002, rfl, HA, HK1, HO_687002, BK680, BK681, BK686, HB⟩ := hrel
      cases gk with
      | zero => exact absurd HA.out (by simp [raster_TurnImage.l0])
      | succ k1 =>
        have H := HA.out
        clear HA
        simp only [raster_TurnImage.l0] at H
        by_cases c20 : x24_1 < (Go.bits .and .i64 a1 3)
        · rw [if_pos c20] at H
          have c20b0 : decide (x24_1 < (Go.bits .and .i64 a1 3)) = true := decide_eq_true c20
          clear c20
          replace H := Option.bind_eq_some_iff.mp H
          obtain ⟨t687, A210, H⟩ := H
          replace H : (raster_TurnImage.l0 k1 (Go.bits .and .i64 a1 3) (wrap64 (x24_1 + 1)) x687001_1 x687000_1 t687) = some (r1, r2, r3, r4) := H
          have A21 := Aside0.mk A210
          clear A210
          have H' := Aside0.mk H
          clear H
          try go_wp2
          have n0_ := Aside0.mk (Kd.R_drew HO_687002.out)
          have n1_ := Aside0.mk (blk_drew BK680.out)
          have n2_ := Aside0.mk (blk_drew BK681.out)
          have n3_ := Aside0.mk (blk_drew BK686.out)
          have n4_ := Aside0.mk (below_drew1 HB.out)
          clear HO_687002
          clear BK680
          clear BK681
          clear BK686
          clear HB
          have HO_687002 := n0_
          have BK680 := n1_
          have BK681 := n2_
          have BK686 := n3_
          have HB := n4_
          clear n0_ n1_ n2_ n3_ n4_
          obtain ⟨Ao23, co23, eo23⟩ := Kd.R_slice HO_687002.out
          (first | subst eo23 | (injection eo23 with f1_ f2_ f3_; have f4_ := f1_.symm; have f5_ := f3_.symm; clear f1_ f2_ f3_; subst f4_; subst f5_))
          refine start_ (n := 13) (S := fun w' => w'.cell? ⟨gb686, 0, none⟩ = some (.int .i64 x687000_1) ∧ w'.cell? ⟨gb686, 1, none⟩ = some (.int .i64 x687001_1) ∧ w'.cell? ⟨gb686, 2, none⟩ = some (.slice Ao23 x687002_1.length co23)) (ds := [12]) #[false, false, false, false, false, false, false, false, false, false, false, false, false] (by kernel_rfl) rfl rfl ⟨(blk_cell BK686.out 0).trans rfl, (blk_cell BK686.out 1).trans rfl, (blk_cell BK686.out 2).trans rfl⟩ (fun hHeld => ?_); refine with_tabW raster_TurnImage.tab7 raster_TurnImage.bits7 (fun HT_ HW_ => ?_)
          generalize wr.drew = w22 at HO_687002 BK680 BK681 BK686 HB hHeld ⊢
          refine pure_ (i := 0) (N := some 26) (v := ?_) (a' := ?_) #[true, false, false, false, false, false, false, false, false, false, false, false, false] rfl rfl (any_of HT_.out (by kernel_rfl)) (fun _ _ _ h => h) (Or.inl ⟨by rfl, ?_⟩) ?_ ?_
          rotate_left
          · intro w'
            go_simp
            with_reducible rfl
          rotate_left
          · simp only [Act.put, List.setIfInBounds_toArray, List.set_cons_zero, List.set_cons_succ, i64_w, i32_w]
            rfl
          refine pure_ (i := 2) (N := some 28) (v := ?_) (a' := ?_) #[true, false, true, false, false, false, false, false, false, false, false, false, false] rfl rfl (any_of HT_.out (by kernel_rfl)) (fun _ _ _ h => h) (Or.inl ⟨by rfl, ?_⟩) ?_ ?_
          rotate_left
          · intro w'
            go_simp
            with_reducible rfl
          rotate_left
          · simp only [Act.put, List.setIfInBounds_toArray, List.set_cons_zero, List.set_cons_succ, i64_w, i32_w]
            rfl
          refine pure_ (i := 4) (N := some 30) (v := ?_) (a' := ?_) #[true, false, true, false, true, false, false, false, false, false, false, false, false] rfl rfl (any_of HT_.out (by kernel_rfl)) (fun _ _ _ h => h) (Or.inl ⟨by rfl, ?_⟩) ?_ ?_
          rotate_left
          · intro w'
            go_simp
            with_reducible rfl
          rotate_left
          · simp only [Act.put, List.setIfInBounds_toArray, List.set_cons_zero, List.set_cons_succ, i64_w, i32_w]
            rfl
          refine pure_ (i := 6) (N := some 32) (v := ?_) (a' := ?_) #[true, false, true, false, true, false, true, false, false, false, false, false, false] rfl rfl (any_of HT_.out (by kernel_rfl)) (fun _ _ _ h => h) (Or.inl ⟨by rfl, ?_⟩) ?_ ?_
          rotate_left
          · intro w'
            go_simp
            with_reducible rfl
          rotate_left
          · simp only [Act.put, List.setIfInBounds_toArray, List.set_cons_zero, List.set_cons_succ, i64_w, i32_w]
            rfl
          refine pure_ (i := 8) (N := some 34) (v := ?_) (a' := ?_) #[true, false, true, false, true, false, true, false, true, false, false, false, false] rfl rfl (any_of HT_.out (by kernel_rfl)) (fun _ _ _ h => h) (Or.inl ⟨by rfl, ?_⟩) ?_ ?_
          rotate_left
          · intro w'
            go_simp
            with_reducible rfl
          rotate_left
          · simp only [Act.put, List.setIfInBounds_toArray, List.set_cons_zero, List.set_cons_succ, i64_w, i32_w]
            rfl
          refine take_ (i := 1) (N := some 27) (v := ?_) (a' := ?_) #[true, true, true, false, true, false, true, false, true, false, false, false, false] rfl rfl (take_ofW HT_.out HW_.out (by kernel_rfl)) (fun _ _ _ h => h) (Or.inl ⟨by rfl, ?_⟩) hHeld ?_ ?_
          rotate_left
          · rintro w' ⟨s0, s1, s2⟩
            go_simp
            with_reducible rfl
          rotate_left
          · simp only [Act.put, List.setIfInBounds_toArray, List.set_cons_zero, List.set_cons_succ, i64_w, i32_w]
            rfl
          refine take_ (i := 3) (N := some 29) (v := ?_) (a' := ?_) #[true, true, true, true, true, false, true, false, true, false, false, false, false] rfl rfl (take_ofW HT_.out HW_.out (by kernel_rfl)) (fun _ _ _ h => h) (Or.inl ⟨by rfl, ?_⟩) hHeld ?_ ?_
          rotate_left
          · rintro w' ⟨s0, s1, s2⟩
            go_simp
            with_reducible rfl
          rotate_left
          · simp only [Act.put, List.setIfInBounds_toArray, List.set_cons_zero, List.set_cons_succ, i64_w, i32_w]
            rfl
          refine take_ (i := 5) (N := some 31) (v := ?_) (a' := ?_) #[true, true, true, true, true, true, true, false, true, false, false, false, false] rfl rfl (take_ofW HT_.out HW_.out (by kernel_rfl)) (fun _ _ _ h => h) (Or.inl ⟨by rfl, ?_⟩) hHeld ?_ ?_
          rotate_left
          · rintro w' ⟨s0, s1, s2⟩
            go_simp
            with_reducible rfl
          rotate_left
          · simp only [Act.put, List.setIfInBounds_toArray, List.set_cons_zero, List.set_cons_succ, i64_w, i32_w]
            rfl
          refine take_ (i := 7) (N := some 33) (v := ?_) (a' := ?_) #[true, true, true, true, true, true, true, true, true, false, false, false, false] rfl rfl (take_ofW HT_.out HW_.out (by kernel_rfl)) (fun _ _ _ h => h) (Or.inl ⟨by rfl, ?_⟩) hHeld ?_ ?_
          rotate_left
          · rintro w' ⟨s0, s1, s2⟩
            go_simp
            with_reducible rfl
          rotate_left
          · simp only [Act.put, List.setIfInBounds_toArray, List.set_cons_zero, List.set_cons_succ, i64_w, i32_w]
            rfl
          refine take_ (i := 9) (N := some 35) (v := ?_) (a' := ?_) #[true, true, true, true, true, true, true, true, true, true, false, false, false] rfl rfl (take_ofW HT_.out HW_.out (by kernel_rfl)) (fun _ _ _ h => h) (Or.inl ⟨by rfl, ?_⟩) hHeld ?_ ?_
          rotate_left
          · rintro w' ⟨s0, s1, s2⟩
            go_simp
            with_reducible rfl
          rotate_left
          · simp only [Act.put, List.setIfInBounds_toArray, List.set_cons_zero, List.set_cons_succ, i64_w, i32_w]
            rfl
          refine one_ (i := 10) (N := some 36) #[true, true, true, true, true, true, true, true, true, true, true, false, false] rfl rfl (one_of HT_.out (by kernel_rfl)) (by decide) (fun K hK => ?_)
          refine goes_ Try.func61 (by kernel_rfl) rfl #[.slice Ao23 x687002_1.length co23, .int .i64 x687000_1, .int .i64 x687001_1] (by rfl) rfl rfl mapx ?_
          with_reducible refine (raster_turned_uint8.calls k1 _ _ x687002_1 x687000_1 x687001_1 t687 _ ?side1 ?side2 A21.out).mono ?_
          (case side1 => repeat (first | exact (Kd.R_reads' HO_687002.out).2.2 | (with_reducible refine Kd.C_alloc ?_ _) | (with_reducible refine Kd.C_drewN ?_ _) | (with_reducible refine Kd.C_drew ?_)))
          (case side2 => exact (Kd.R_reads' HO_687002.out).2.1)
          rintro e w24 ⟨v688, rfl, ho0, hb⟩
          refine ⟨_, rfl, ?_⟩
          have n0_ := Aside0.mk (Kd.R_elder' (rkx HO_687002) (Kd.R_base ho0) hb)
          have n1_ := Aside0.mk (Kd.R_lower (Kd.R_new' ho0 (Kd.R_lt (rkx HO_687002))) (below_size (hb3 HB GE680 GE681 GE686)))
          have n2_ := Aside0.mk (blk_below (bkx BK680) hb)
          have n3_ := Aside0.mk (blk_below (bkx BK681) hb)
          have n4_ := Aside0.mk (blk_below (bkx BK686) hb)
          have n5_ := Aside0.mk (below_step (hb3 HB GE680 GE681 GE686) hb)
          clear HO_687002
          clear BK680
          clear BK681
          clear BK686
          clear HB
          have HO_687002 := n0_
          have HO689 := n1_
          have BK680 := n2_
          have BK681 := n3_
          have BK686 := n4_
          have HB := n5_
          clear n0_ n1_ n2_ n3_ n4_ n5_
          (try clear hb)
          (try clear hb2)
          (try clear hk)
          (try clear hi)
          (try clear ho0)
          obtain ⟨Ao25, co25, eo25⟩ := Kd.R_slice HO689.out
          (first | subst eo25 | (injection eo25 with f1_ f2_ f3_; have f4_ := f1_.symm; have f5_ := f3_.symm; clear f1_ f2_ f3_; subst f4_; subst f5_))
          refine hK.out _ _ ⟨(blk_cell BK686.out 0).trans rfl, (blk_cell BK686.out 1).trans rfl, (blk_cell BK686.out 2).trans rfl⟩ (fun hHeld => ?_)
          clear hK K
          refine norm_ (a' := ?_) ?_ ?_
          rotate_left
          · show Act.put _ (some 36) _ = _
            simp only [Act.put, List.setIfInBounds_toArray, List.set_cons_zero, List.set_cons_succ, i64_w, i32_w]
            rfl
          refine pure_ (i := 11) (N := some 37) (v := ?_) (a' := ?_) #[true, true, true, true, true, true, true, true, true, true, true, true, false] rfl rfl (any_of HT_.out (by kernel_rfl)) (fun _ _ _ h => h) (Or.inl ⟨by rfl, ?_⟩) ?_ ?_
          rotate_left
          · intro w'
            go_simp
            with_reducible rfl
          rotate_left
          · simp only [Act.put, List.setIfInBounds_toArray, List.set_cons_zero, List.set_cons_succ, i64_w, i32_w]
            rfl
          refine last_ (i := 12) (N := none) #[true, true, true, true, true, true, true, true, true, true, true, true, true] rfl rfl (one_of HT_.out (by kernel_rfl)) (by decide) (fun K hK => ?_)
          have hs26 : w24.cell? ⟨gb686, 0, none⟩ = some (.int .i64 x687000_1) := (blk_cell BK686.out 0).trans rfl
          have hfs26 := blk_frozen BK686.out 0
          have hns26_0 := NB680_686.out
          have hns26_1 := NB681_686.out
          have hms26_0 := NB686_680.out
          have hms26_1 := NB686_681.out
          have hs27 : w24.cell? ⟨gb686, 1, none⟩ = some (.int .i64 x687001_1) := (blk_cell BK686.out 1).trans rfl
          have hfs27 := blk_frozen BK686.out 1
          have hns27_0 := NB680_686.out
          have hns27_1 := NB681_686.out
          have hms27_0 := NB686_680.out
          have hms27_1 := NB686_681.out
          have hs28 : w24.cell? ⟨gb686, 2, none⟩ = some (.slice Ao23 x687002_1.length co23) := (blk_cell BK686.out 2).trans rfl
          have hfs28 := blk_frozen BK686.out 2
          have hns28_0 := NB680_686.out
          have hns28_1 := NB681_686.out
          have hms28_0 := NB686_680.out
          have hms28_1 := NB686_681.out
          refine skip_ (w1 := ?_) (by rfl) rfl ?_ ?_
          rotate_left
          · go_simp
            rfl
          refine hK.out _ _ ?_
          clear hK K
          refine done_ (done_of HT_.out (by kernel_rfl)) ?_
          try go_wp2
          go_roundg k1
          case measure => have := HK1.out; omega
          case rel => exact ⟨(wrap64 (x24_1 + 1)), (x687001_1), (x687000_1), (t687), (.slice Ao25 t687.length co25), (by first | rfl | (simp; done) | (simp [*]; done)), H', ⟨by have := HK1.out; omega⟩, ⟨by refine rkt ?_; exact Kd.R_mono (Kd.R_far (p := ⟨gb686, 2, none⟩) (Kd.R_far (p := ⟨gb686, 1, none⟩) (Kd.R_far (p := ⟨gb686, 0, none⟩) (Kd.R_types HO689.out BK686.out (by decide)) (fun _ hk => hk.2) (.int .i64 x687001_1)) (fun _ hk => hk.2) (.int .i64 x687000_1)) (fun _ hk => hk.2) (.slice Ao25 t687.length co25)) (fun _ hk => trivial)⟩, ⟨bky BK680 NB680_686⟩, ⟨bky BK681 NB681_686⟩, ⟨by refine bkt ?_; refine blk_put (cs := #[.int .i64 x687001_1, .int .i64 x687000_1, .slice Ao23 x687002_1.length co23]) ?_ 2 _ rfl; refine bkt ?_; refine blk_put (cs := #[.int .i64 x687001_1, .int .i64 x687001_1, .slice Ao23 x687002_1.length co23]) ?_ 1 _ rfl; refine bkt ?_; refine blk_put (cs := #[.int .i64 x687000_1, .int .i64 x687001_1, .slice Ao23 x687002_1.length co23]) ?_ 0 _ rfl; refine bkt ?_; exact BK686.out⟩, ⟨hb3 HB GE680 GE681 GE686⟩⟩
        · rw [if_neg c20] at H
          have c20b0 : decide (x24_1 < (Go.bits .and .i64 a1 3)) = false := decide_eq_false c20
          clear c20
          simp only [Option.some.injEq, Prod.mk.injEq] at H
          obtain ⟨rfl, rfl, rfl, rfl⟩ := H
          have hnb29 := NB686_680.out
          have hnc29 := NB680_686.out
          have hnb30 := NB686_681.out
          have hnc30 := NB681_686.out
          have hcz31_0 : wr.cell? ⟨gb686, 0, none⟩ = some (.int .i64 x687000_1) := (blk_cell BK686.out 0).trans rfl
          have hcz31_1 : wr.cell? ⟨gb686, 1, none⟩ = some (.int .i64 x687001_1) := (blk_cell BK686.out 1).trans rfl
          have hcz31_2 : wr.cell? ⟨gb686, 2, none⟩ = some (u687002) := (blk_cell BK686.out 2).trans rfl
          have hfz31_0 := blk_frozen BK686.out 0
          have hfz31_1 := blk_frozen BK686.out 1
          have hfz31_2 := blk_frozen BK686.out 2
          have hnb32 := NB681_680.out
          have hnc32 := NB680_681.out
          have hcz33_0 : wr.cell? ⟨gb681, 0, none⟩ = some (.int .i64 0) := (blk_cell BK681.out 0).trans rfl
          have hcz33_1 : wr.cell? ⟨gb681, 1, none⟩ = some (.int .i64 0) := (blk_cell BK681.out 1).trans rfl
          have hcz33_2 : wr.cell? ⟨gb681, 2, none⟩ = some (.slice none 0 0) := (blk_cell BK681.out 2).trans rfl
          have hfz33_0 := blk_frozen BK681.out 0
          have hfz33_1 := blk_frozen BK681.out 1
          have hfz33_2 := blk_frozen BK681.out 2
          obtain ⟨Ao34, co34, eo34⟩ := Kd.R_slice HO_687002.out
          subst eo34
          go_wp2
          refine bodyPost_ret (results_ct rfl _ _ gb681 58 #[.int .i64 x687000_1, .int .i64 x687001_1, .slice Ao34 x687002_1.length co34] (0, 0) _ rfl (by refine bkt ?_; refine blk_put (cs := #[.int .i64 x687000_1, .int .i64 x687001_1, .slice none 0 0]) ?_ 2 _ rfl; refine bkt ?_; refine blk_put (cs := #[.int .i64 x687000_1, .int .i64 0, .slice none 0 0]) ?_ 1 _ rfl; refine bkt ?_; refine blk_put (cs := #[.int .i64 0, .int .i64 0, .slice none 0 0]) ?_ 0 _ rfl; refine bkt ?_; exact BK681.out) Try.underlying58 rfl (by kernel_rfl)) rfl ?_
          exact ⟨_, by first | rfl | (simp [errW_none, errW_some] <;> rfl) | (simp [*, errW_none, errW_some] <;> rfl), by refine rkt ?_; exact Kd.R_mono (Kd.R_far (p := ⟨gb681, 2, none⟩) (Kd.R_far (p := ⟨gb681, 1, none⟩) (Kd.R_far (p := ⟨gb681, 0, none⟩) (Kd.R_types HO_687002.out BK681.out (by decide)) (fun _ hk => hk.2) (.int .i64 x687000_1)) (fun _ hk => hk.2) (.int .i64 x687001_1)) (fun _ hk => hk.2) (.slice Ao34 x687002_1.length co34)) (fun _ hk => trivial), by repeat (first | (with_reducible first | exact HB.out | apply below_alloc | apply pw_below_drewN | apply below_drew1 | refine below_set ?_ GE680.out | refine below_set ?_ GE681.out | refine below_set ?_ GE686.out) | exact HB.out)⟩
  · rw [if_neg c4] at H
    have c4b0 : (t682 == 0) = false := beq_eq_false_iff_ne.mpr c4
    have c4b1 : (t682 != 0) = true := bne_iff_ne.mpr c4
    simp only [Option.some.injEq, Prod.mk.injEq] at H
    obtain ⟨rfl, rfl, rfl, rfl⟩ := H
    go_enter Try.func40, Try.ntmps40
    go_wp2_with (first | ((with_reducible refine gate_dst (N := 2) rfl ?_); refine box_event ?hg (N := 2) ?hd (cs := #[.int .i64 a0_0, .int .i64 a0_1, .slice A0_2 l0_2.length c0_2]) (t := 58) ?hr ?_; (case hd => rfl); (case hg => rfl); (case hr => first | (go_simp; done) | (go_simp; rfl)); intro gb680 hg w35 hbox hb; have n0_ := Aside0.mk (below_step (hb0 HB) hb); have n1_ := Aside0.mk (hbox); have n2_ := Aside0.mk ((by rw [hg]; exact (below_size (hb0 HB)) : w.heap.size ≤ gb680)); have n3_ := Aside0.mk ((by rw [hg]; exact (below_size (hb0 HB)) : w.heap.size ≤ gb680)); clear HB; have HB := n0_; have BK680 := n1_; have GW680 := n2_; have GE680 := n3_; clear n0_ n1_ n2_ n3_; clear hb hbox hg) | ((with_reducible refine gate_dst (N := 4) rfl ?_); refine box_event ?hg (N := 4) ?hd (cs := #[.int .i64 0, .int .i64 0, .slice none 0 0]) (t := 58) ?hr ?_; (case hd => rfl); (case hg => rfl); (case hr => first | (go_simp; done) | (go_simp; rfl)); intro gb681 hg w36 hbox hb; have n0_ := Aside0.mk (blk_below (bkx BK680) hb); have n1_ := Aside0.mk (below_step (hb1 HB GE680) hb); have n2_ := Aside0.mk (hbox); have n3_ := Aside0.mk ((by rw [hg]; exact (below_size (hb1 HB GE680)) : w.heap.size ≤ gb681)); have n4_ := Aside0.mk ((by rw [hg]; exact (below_size (hb1 HB GE680)) : w.heap.size ≤ gb681)); have n5_ := Aside0.mk (nel hg BK680 : gb680 ≠ gb681); have n6_ := Aside0.mk (neg hg BK680 : gb681 ≠ gb680); clear BK680; clear HB; have BK680 := n0_; have HB := n1_; have BK681 := n2_; have GW681 := n3_; have GE681 := n4_; have NB680_681 := n5_; have NB681_680 := n6_; clear n0_ n1_ n2_ n3_ n4_ n5_ n6_; clear hb hbox hg; have hnb37 := NB680_681.out; have hnc37 := NB681_680.out; have hcz38_0 : w36.cell? ⟨gb680, 0, none⟩ = some (.int .i64 a0_0) := (blk_cell BK680.out 0).trans rfl; have hcz38_1 : w36.cell? ⟨gb680, 1, none⟩ = some (.int .i64 a0_1) := (blk_cell BK680.out 1).trans rfl; have hcz38_2 : w36.cell? ⟨gb680, 2, none⟩ = some (.slice A0_2 l0_2.length c0_2) := (blk_cell BK680.out 2).trans rfl; have hfz38_0 := blk_frozen BK680.out 0; have hfz38_1 := blk_frozen BK680.out 1; have hfz38_2 := blk_frozen BK680.out 2) | ((with_reducible refine gate_callee (f := 32) rfl ?_); refine goesL_ (some 9) rfl rfl Try.func32 (by kernel_rfl) rfl #[.agg #[.int .i64 a0_0, .int .i64 a0_1, .slice A0_2 l0_2.length c0_2]] rfl mapx ?_; (with_reducible refine (raster_CheckImage.calls a0_0 a0_1 _ _ l0_2 t682 _ ?side1 ?side2 A3.out).mono ?_); (case side1 => repeat (first | exact (Kd.C_below HR0_2.out HB.out) | (with_reducible refine Kd.C_alloc ?_ _) | (with_reducible refine Kd.C_drewN ?_ _) | (with_reducible refine Kd.C_drew ?_))); (case side2 => exact HC0_2.out); rintro e w39 ⟨rfl, hb⟩; refine ⟨_, rfl, ?_⟩; have n0_ := Aside0.mk (blk_below (bkx BK680) hb); have n1_ := Aside0.mk (blk_below (bkx BK681) hb); have n2_ := Aside0.mk (below_step (hb2 HB GE680 GE681) hb); clear BK680; clear BK681; clear HB; have BK680 := n0_; have BK681 := n1_; have HB := n2_; clear n0_ n1_ n2_; (try clear hb); (try clear hb2); (try clear hk); (try clear hi); have hcz40_0 : w39.cell? ⟨gb681, 0, none⟩ = some (.int .i64 0) := (blk_cell BK681.out 0).trans rfl; have hcz40_1 : w39.cell? ⟨gb681, 1, none⟩ = some (.int .i64 0) := (blk_cell BK681.out 1).trans rfl; have hcz40_2 : w39.cell? ⟨gb681, 2, none⟩ = some (.slice none 0 0) := (blk_cell BK681.out 2).trans rfl; have hfz40_0 := blk_frozen BK681.out 0; have hfz40_1 := blk_frozen BK681.out 1; have hfz40_2 := blk_frozen BK681.out 2))
    refine bodyPost_ret (results_ct rfl _ _ gb681 58 #[.int .i64 0, .int .i64 0, .slice none 0 0] (0, 0) _ rfl (by refine bkt ?_; refine blk_put (cs := #[.int .i64 0, .int .i64 0, .slice none 0 0]) ?_ 2 _ rfl; refine bkt ?_; refine blk_put (cs := #[.int .i64 0, .int .i64 0, .slice none 0 0]) ?_ 1 _ rfl; refine bkt ?_; refine blk_put (cs := #[.int .i64 0, .int .i64 0, .slice none 0 0]) ?_ 0 _ rfl; refine bkt ?_; exact BK681.out) Try.underlying58 rfl (by kernel_rfl)) rfl ?_
    exact ⟨_, by first | rfl | (simp [errW_none, errW_some] <;> rfl) | (simp [*, errW_none, errW_some] <;> rfl), by first | exact Kd.R_nil _ _ _ _ _ | exact Kd.N_nil _ _ _ _ _ | exact Kd.V_nil _ _ _ _ _ | exact Kd.Q_nil _ _ _ _ _ | exact Kd.S_nil _ _ _ _ _, by repeat (first | (with_reducible first | exact HB.out | apply below_alloc | apply pw_below_drewN | apply below_drew1 | refine below_set ?_ GE680.out | refine below_set ?_ GE681.out) | exact HB.out)⟩

end Go.Proofs.Ytcmcmoaikabfoaa.PR
