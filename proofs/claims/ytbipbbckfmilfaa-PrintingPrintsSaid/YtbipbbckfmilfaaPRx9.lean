-- Written by this session's own program (myprint.py).
import Derived.Test.YtbipbbckfmilfaaPRx0
import Derived.Test.YtbipbbckfmilfaaPRx2
import Derived.Test.YtbipbbckfmilfaaPRx5
import Derived.Test.YtbipbbckfmilfaaPRx6
namespace Go.Proofs.Ytbipbbckfmilfaa.PR
open Go.RowKit Go.Proofs.YtbipbbckfmilfaaW.PrintWords Go.Proofs.YtbipbbckfmilfaaW.PrintLast Go.Proofs.YtbipbbckfmilfaaW.PrintMore Go.Proofs.Ytbipbbckfmilfaa.XWords Go.Proofs.Ytbipbbckfmilfaa.XShort Go.Proofs.Ytbipbbckfmilfaa.XFn
attribute [local go_sem] max2_int min2_int max_two min_two max_three min_three max_four min_four   -- for this text's walks alone
set_option linter.unusedVariables false
set_option linter.unusedSimpArgs false

/-! ### raster_Gray: function 17 -/
def raster_Gray.l0 : Nat → List Bool → Int → Int → Int → Int → List Int → Option (Int × Int × List Int × Int)
 | 0, _, _, _, _, _, _ => none
 | k + 1, x24, x25, x26, x261000, x261001, x261002 => if x26 < x25 then (if 0 ≤ x26 then (if x26 < (x24.length : Int) then (if rdOf false x24 x26 = true then (raster_Gray.l0 k x24 x25 (wrap64 (x26 + 1)) x261000 x261001 x261002) else (if x26 < (x261002.length : Int) then (raster_Gray.l0 k x24 x25 (wrap64 (x26 + 1)) x261000 x261001 (x261002.set (x26 : Int).toNat 255)) else (none))) else (none)) else (none)) else (some (x261000, x261001, x261002, 0))
def raster_Gray.f (k : Nat) (a0_0 : Int) (a0_1 : Int) (l0_2 : List Bool) : Option (Int × Int × List Int × Int) := (raster_Check.f a0_0 a0_1 l0_2).bind fun t256 => (if t256 = 0 then (if 0 ≤ (l0_2.length : Int) then (if ((l0_2.length : Int) : Int).toNat ≤ 281474976710656 then (raster_Gray.l0 k l0_2 (l0_2.length : Int) 0 a0_0 a0_1 (List.replicate ((l0_2.length : Int) : Int).toNat 0)) else (none)) else (none)) else (some (0, 0, ([] : List Int), t256)))
theorem raster_Gray.mono_l : ∀ k, (∀ y0 y1 y2 y3 y4 y5, LeO (raster_Gray.l0 k y0 y1 y2 y3 y4 y5) (raster_Gray.l0 (k + 1) y0 y1 y2 y3 y4 y5))
 | 0 => fun _ _ _ _ _ _ r h => by simp [raster_Gray.l0] at h
 | k + 1 => by
  have ih0 := raster_Gray.mono_l k
  ·intro y0 y1 y2 y3 y4 y5
   unfold raster_Gray.l0
   repeat' first
   | (with_reducible exact ih0 _ _ _ _ _ _)
   | (with_reducible exact LeO.refl _)
   | (with_reducible exact LeO.none _)
   | (with_reducible refine LeO.ite ?_ ?_)
   | (with_reducible refine LeO.bind ?_ (fun _ => ?_))
   | exact ih0 _ _ _ _ _ _
   | exact LeO.none _
   | refine LeO.ite ?_ ?_
   | refine LeO.bind ?_ (fun _ => ?_)
theorem raster_Gray.mono : ∀ a0 a1 a2 k, LeO (raster_Gray.f k a0 a1 a2) (raster_Gray.f (k + 1) a0 a1 a2) := by
 intro a0 a1 a2 k
 have ih0 := raster_Gray.mono_l k
 unfold raster_Gray.f
 repeat' first
   | (with_reducible exact ih0 _ _ _ _ _ _)
   | (with_reducible exact LeO.refl _)
   | (with_reducible exact LeO.none _)
   | (with_reducible refine LeO.ite ?_ ?_)
   | (with_reducible refine LeO.bind ?_ (fun _ => ?_))
   | exact ih0 _ _ _ _ _ _
   | exact LeO.none _
   | refine LeO.ite ?_ ?_
   | refine LeO.bind ?_ (fun _ => ?_)
def raster_Gray.T4 : Bool × List (List Nat × List Nat) := (true, [([], []), ([0], [0]), ([], []), ([2], [2]), ([], []), ([4], [4]), ([5], [5]), ([6, 6], [6]), ([1, 3, 7], [1, 3, 7]), ([], []), ([9, 8, 0, 1, 2, 3, 4, 5, 6, 7, 8, 9], [8, 9])])
def raster_Gray.B4 : List Nat := [0, 1, 0, 4, 0, 16, 48, 112, 255, 0, 1023]
theorem raster_Gray.tab4 : rtab .any (opsOf Try.f17 4) = raster_Gray.T4 := by kernel_rfl
theorem raster_Gray.bits4 : waitsOk raster_Gray.T4.2 raster_Gray.B4 = true := by kernel_rfl
set_option maxHeartbeats 8000000 in
set_option maxRecDepth 100000 in
theorem raster_Gray.calls (k : Nat) (a0_0 : Int) (a0_1 : Int) (A0_2 : Option Addr) (c0_2 : Nat) (l0_2 : List Bool) (r1 : Int) (r2 : Int) (r3 : List Int) (r4 : Int) (w : World) (hr0_2 : Kd.C Kd.bool w A0_2 l0_2.length l0_2) (hc0_2 : l0_2.length ≤ c0_2) (h : raster_Gray.f k a0_0 a0_1 l0_2 = some (r1, r2, r3, r4)) :
  Calls Try.prog 17 #[.agg #[.int .i64 a0_0, .int .i64 a0_1, .slice A0_2 l0_2.length c0_2]] w fun e w' => ∃ v2_ : Value, e = .returned (.tuple #[.agg #[.int .i64 r1, .int .i64 r2, v2_], .int .i64 r4]) ∧ Kd.R (Kd.int .u8) 5 w' w.heap.size (fun _ => True) v2_ r3 ∧ Below w.heap.size w w' := by
 have hu33 := Try.underlying33
 have hu24 := Try.underlying24
 have HR0_2 := Aside0.mk hr0_2
 have HC0_2 := Aside0.mk hc0_2
 clear hr0_2 hc0_2
 have HB := Aside0.mk (Below.refl w.heap.size w)
 have H : ((raster_Check.f a0_0 a0_1 l0_2).bind fun t256 => (if t256 = 0 then (if 0 ≤ (l0_2.length : Int) then (if ((l0_2.length : Int) : Int).toNat ≤ 281474976710656 then (raster_Gray.l0 k l0_2 (l0_2.length : Int) 0 a0_0 a0_1 (List.replicate ((l0_2.length : Int) : Int).toNat 0)) else (none)) else (none)) else (some (0, 0, ([] : List Int), t256)))) = some (r1, r2, r3, r4) := h
 clear h
 replace H := Option.bind_eq_some_iff.mp H
 obtain ⟨t256, A20, H⟩ := H
 replace H : (if t256 = 0 then (if 0 ≤ (l0_2.length : Int) then (if ((l0_2.length : Int) : Int).toNat ≤ 281474976710656 then (raster_Gray.l0 k l0_2 (l0_2.length : Int) 0 a0_0 a0_1 (List.replicate ((l0_2.length : Int) : Int).toNat 0)) else (none)) else (none)) else (some (0, 0, ([] : List Int), t256))) = some (r1, r2, r3, r4) := H
 have A2 := Aside0.mk A20
 clear A20
 by_cases c3 : t256 = 0
 ·rw [if_pos c3] at H
  have c3b0 : (t256 == 0) = true := beq_iff_eq.mpr c3
  have c3b1 : (t256 != 0) = false := bne_eq_false_iff_eq.mpr c3
  clear c3
  by_cases c4 : 0 ≤ (l0_2.length : Int)
  ·rw [if_pos c4] at H
   have c4b0 := eq_true c4
   have c4b1 : decide (0 ≤ (l0_2.length : Int)) = true := decide_eq_true c4
   clear c4
   by_cases c5 : ((l0_2.length : Int) : Int).toNat ≤ 281474976710656
   ·rw [if_pos c5] at H
    have c5b0 := eq_true c5
    have c5b1 : decide (((l0_2.length : Int) : Int).toNat ≤ 281474976710656) = true := decide_eq_true c5
    clear c5
    obtain ⟨y257, hy257⟩ : ∃ y_ : List Int, y_ = (List.replicate ((l0_2.length : Int) : Int).toNat 0) := ⟨_, rfl⟩
    replace H : (raster_Gray.l0 k l0_2 (l0_2.length : Int) 0 a0_0 a0_1 y257) = some (r1, r2, r3, r4) := by first | (rw [hy257]; with_reducible exact H) | (have H2_ := (Option.bind_some _ _).symm.trans H; rw [hy257]; with_reducible exact H2_) | (have H2_ := (Option.bind_some _ _).symm.trans H; with_reducible exact H2_) | with_reducible exact H | (rw [hy257]; exact H) | exact H
    have Ny257 := Aside0.mk hy257
    clear hy257
    have H' := Aside0.mk H
    clear H
    go_enter Try.func17, Try.ntmps17
    try go_wp2_with (first | ((with_reducible refine gate_dst (N := 1) rfl ?_); refine box_event ?hg (N := 1) ?hd (cs := #[.int .i64 a0_0, .int .i64 a0_1, .slice A0_2 l0_2.length c0_2]) (t := 33) ?hr ?_; (case hd => rfl); (case hg => rfl); (case hr => first | (go_simp; done) | (go_simp; rfl)); intro gb254 hg w6 hbox hb; have n0_ := Aside0.mk (below_step (hb0 HB) hb); have n1_ := Aside0.mk (hbox); have n2_ := Aside0.mk ((by rw [hg]; exact (below_size (hb0 HB)) : w.heap.size ≤ gb254)); have n3_ := Aside0.mk ((by rw [hg]; exact (below_size (hb0 HB)) : w.heap.size ≤ gb254)); clear HB; have HB := n0_; have BK254 := n1_; have GW254 := n2_; have GE254 := n3_; clear n0_ n1_ n2_ n3_; clear hb hbox hg) | ((with_reducible refine gate_dst (N := 2) rfl ?_); refine box_event ?hg (N := 2) ?hd (cs := #[.int .i64 0, .int .i64 0, .slice none 0 0]) (t := 24) ?hr ?_; (case hd => rfl); (case hg => rfl); (case hr => first | (go_simp; done) | (go_simp; rfl)); intro gb255 hg w7 hbox hb; have n0_ := Aside0.mk (blk_below (bkx BK254) hb); have n1_ := Aside0.mk (below_step (hb1 HB GE254) hb); have n2_ := Aside0.mk (hbox); have n3_ := Aside0.mk ((by rw [hg]; exact (below_size (hb1 HB GE254)) : w.heap.size ≤ gb255)); have n4_ := Aside0.mk ((by rw [hg]; exact (below_size (hb1 HB GE254)) : w.heap.size ≤ gb255)); have n5_ := Aside0.mk (nel hg BK254 : gb254 ≠ gb255); have n6_ := Aside0.mk (neg hg BK254 : gb255 ≠ gb254); clear BK254; clear HB; have BK254 := n0_; have HB := n1_; have BK255 := n2_; have GW255 := n3_; have GE255 := n4_; have NB254_255 := n5_; have NB255_254 := n6_; clear n0_ n1_ n2_ n3_ n4_ n5_ n6_; clear hb hbox hg; have hnb8 := NB254_255.out; have hnc8 := NB255_254.out; have hcz9_0 : w7.cell? ⟨gb254, 0, none⟩ = some (.int .i64 a0_0) := (blk_cell BK254.out 0).trans rfl; have hcz9_1 : w7.cell? ⟨gb254, 1, none⟩ = some (.int .i64 a0_1) := (blk_cell BK254.out 1).trans rfl; have hcz9_2 : w7.cell? ⟨gb254, 2, none⟩ = some (.slice A0_2 l0_2.length c0_2) := (blk_cell BK254.out 2).trans rfl; have hfz9_0 := blk_frozen BK254.out 0; have hfz9_1 := blk_frozen BK254.out 1; have hfz9_2 := blk_frozen BK254.out 2) | ((with_reducible refine gate_callee (f := 35) rfl ?_); refine goesL_ (some 9) rfl rfl Try.func35 (by kernel_rfl) rfl #[.agg #[.int .i64 a0_0, .int .i64 a0_1, .slice A0_2 l0_2.length c0_2]] rfl mapx ?_; (with_reducible refine (raster_Check.calls a0_0 a0_1 _ _ l0_2 t256 _ ?side1 ?side2 A2.out).mono ?_); (case side1 => repeat (first | exact (Kd.C_below HR0_2.out HB.out) | (with_reducible refine Kd.C_alloc ?_ _) | (with_reducible refine Kd.C_drewN ?_ _) | (with_reducible refine Kd.C_drew ?_))); (case side2 => exact HC0_2.out); rintro e w10 ⟨rfl, hb⟩; refine ⟨_, rfl, ?_⟩; have n0_ := Aside0.mk (blk_below (bkx BK254) hb); have n1_ := Aside0.mk (blk_below (bkx BK255) hb); have n2_ := Aside0.mk (below_step (hb2 HB GE254 GE255) hb); clear BK254; clear BK255; clear HB; have BK254 := n0_; have BK255 := n1_; have HB := n2_; clear n0_ n1_ n2_; (try clear hb); (try clear hb2); (try clear hk); (try clear hi)))
    have n0_ := Aside0.mk (blk_drew BK254.out)
    have n1_ := Aside0.mk (blk_drew BK255.out)
    have n2_ := Aside0.mk (below_drew1 HB.out)
    clear BK254
    clear BK255
    clear HB
    have BK254 := n0_
    have BK255 := n1_
    have HB := n2_
    clear n0_ n1_ n2_
    refine start_ (n := 11) (S := fun w' => w'.cell? ⟨gb254, 0, none⟩ = some (.int .i64 a0_0) ∧ w'.cell? ⟨gb254, 1, none⟩ = some (.int .i64 a0_1) ∧ w'.cell? ⟨gb254, 2, none⟩ = some (.slice A0_2 l0_2.length c0_2)) (ds := []) (bA 11 0) (by kernel_rfl) rfl rfl ⟨(blk_cell BK254.out 0).trans rfl, (blk_cell BK254.out 1).trans rfl, (blk_cell BK254.out 2).trans rfl⟩ (fun hHeld => ?_); refine with_tabW raster_Gray.tab4 raster_Gray.bits4 (fun HT_ HW_ => ?_)
    generalize w10.drew = w11 at BK254 BK255 HB hHeld ⊢
    refine pt HT_ 0 14 ?_
    refine pt HT_ 2 16 ?_
    refine pt HT_ 4 18 ?_
    refine tk HT_ HW_ hHeld 1 15 ?_
    refine tk HT_ HW_ hHeld 3 17 ?_
    refine tk HT_ HW_ hHeld 5 19 ?_
    refine pt HT_ 6 20 ?_
    refine join_ (σ := Value × Nat) 1 (bA 11 1023) (fun s_ => [(21, s_.1), (5, .pointer (some ⟨s_.2, 0, none⟩)), (22, .agg #[.int .i64 a0_0, .int .i64 a0_1, s_.1])]) (fun s_ w' => (w'.cell? ⟨gb254, 0, none⟩ = some (.int .i64 a0_0) ∧ w'.cell? ⟨gb254, 1, none⟩ = some (.int .i64 a0_1) ∧ w'.cell? ⟨gb254, 2, none⟩ = some (.slice A0_2 l0_2.length c0_2)) ∧ (Kd.R (Kd.int .u8) 5 w' w.heap.size (fun _ => True) s_.1 y257) ∧ (w'.heap[gb254]? = some (.cells #[.int .i64 a0_0, .int .i64 a0_1, .slice A0_2 l0_2.length c0_2] 33 (0, 0))) ∧ (w'.heap[gb255]? = some (.cells #[.int .i64 0, .int .i64 0, .slice none 0 0] 24 (0, 0))) ∧ (w'.heap[s_.2]? = some (.cells #[.int .i64 0, .int .i64 0, .slice none 0 0] 24 (0, 0))) ∧ (w.heap.size ≤ s_.2) ∧ (w.heap.size ≤ s_.2) ∧ (gb254 ≠ s_.2) ∧ (s_.2 ≠ gb254) ∧ (gb255 ≠ s_.2) ∧ (s_.2 ≠ gb255) ∧ (Below w.heap.size w w')) ?_ ?_
    rotate_left
    ·intro hCont
     refine two_ (i := 7) (j := 9) (Ni := some 21) (Nj := some 5) (bA 11 255) (bA 11 639) rfl rfl rfl rfl (two_of HT_.out (by kernel_rfl)) (by decide) (by decide) (fun K hK => ?_) (fun K hK => ?_)
     ·skip
      refine Kd.R_make_step (Kd.int .u8) _ 5 (by rfl) (N := 21) rfl 22 _ _ rfl (l0_2.length : Int) rfl rfl Try.underlying22 (.int .u8 0) 1 info5 rfl (by decide) (by omega) 0 (ok := fun _ => True) (okp := fun _ => True) rfl (fun _ hk => hk) trivial (of_decide_eq_true (by first | (with_reducible assumption) | assumption)) (Nat.le_trans (Nat.mul_le_mul_right _ (of_decide_eq_true (by first | (with_reducible assumption) | assumption) : (l0_2.length : Int).toNat ≤ 281474976710656)) (by omega)) (Below.refl _ _) (Nat.le_refl _) ?_
      intro v258 w12 ho13 hb hg_ hnew_
      clear hg_ hnew_
      (first | rw [← Ny257.out] at ho13 | (simp only [Int.reduceToNat] at ho13; rw [← Ny257.out] at ho13))
      have n0_ := Aside0.mk (Kd.R_lower ho13 (below_size (hb2 HB GE254 GE255)))
      have n1_ := Aside0.mk (blk_below (bkx BK254) hb)
      have n2_ := Aside0.mk (blk_below (bkx BK255) hb)
      have n3_ := Aside0.mk (below_step (hb2 HB GE254 GE255) hb)
      clear BK254
      clear BK255
      clear HB
      have HO259 := n0_
      have BK254 := n1_
      have BK255 := n2_
      have HB := n3_
      clear n0_ n1_ n2_ n3_
      clear hb ho13
      obtain ⟨Ao14, co14, eo14⟩ := Kd.R_slice HO259.out
      (first | subst eo14 | (injection eo14 with f1_ f2_ f3_; have f4_ := f1_.symm; have f5_ := f3_.symm; clear f1_ f2_ f3_; subst f4_; subst f5_))
      refine hK.out _ _ ⟨(blk_cell BK254.out 0).trans rfl, (blk_cell BK254.out 1).trans rfl, (blk_cell BK254.out 2).trans rfl⟩ (fun hHeld => ?_)
      clear hK K
      refine norm_ (a' := ?_) ?_ ?_
      rotate_left
      ·show Act.put _ (some 21) _ = _
       simp only [Act.put, List.setIfInBounds_toArray, List.set_cons_zero, List.set_cons_succ, i64_w, i32_w]
       rfl
      refine pt HT_ 8 22 ?_
      refine one_ (i := 9) (N := some 5) (bA 11 1023) rfl rfl (one_of HT_.out (by kernel_rfl)) (by decide) (fun K hK => ?_)
      refine box_step ?hg (N := 5) ?hd (cs := #[.int .i64 0, .int .i64 0, .slice none 0 0]) (t := 24) ?hr ?_; (case hd => rfl); (case hg => rfl); (case hr => first | (go_simp; done) | (go_simp; rfl))
      intro gb260 hg w15 hbox hb
      have n0_ := Aside0.mk (Kd.R_below (rkx HO259) hb)
      have n1_ := Aside0.mk (blk_below (bkx BK254) hb)
      have n2_ := Aside0.mk (blk_below (bkx BK255) hb)
      have n3_ := Aside0.mk (below_step (hb2 HB GE254 GE255) hb)
      have n4_ := Aside0.mk (hbox)
      have n5_ := Aside0.mk ((by rw [hg]; exact (below_size (hb2 HB GE254 GE255)) : w.heap.size ≤ gb260))
      have n6_ := Aside0.mk ((by rw [hg]; exact (below_size (hb2 HB GE254 GE255)) : w.heap.size ≤ gb260))
      have n7_ := Aside0.mk (nel hg BK254 : gb254 ≠ gb260)
      have n8_ := Aside0.mk (neg hg BK254 : gb260 ≠ gb254)
      have n9_ := Aside0.mk (nel hg BK255 : gb255 ≠ gb260)
      have n10_ := Aside0.mk (neg hg BK255 : gb260 ≠ gb255)
      clear HO259
      clear BK254
      clear BK255
      clear HB
      have HO259 := n0_
      have BK254 := n1_
      have BK255 := n2_
      have HB := n3_
      have BK260 := n4_
      have GW260 := n5_
      have GE260 := n6_
      have NB254_260 := n7_
      have NB260_254 := n8_
      have NB255_260 := n9_
      have NB260_255 := n10_
      clear n0_ n1_ n2_ n3_ n4_ n5_ n6_ n7_ n8_ n9_ n10_
      clear hb hbox hg
      refine hK.out _ _ ⟨(blk_cell BK254.out 0).trans rfl, (blk_cell BK254.out 1).trans rfl, (blk_cell BK254.out 2).trans rfl⟩ (fun hHeld => ?_)
      clear hK K
      refine norm_ (a' := ?_) ?_ ?_
      rotate_left
      ·show Act.put _ (some 5) _ = _
       simp only [Act.put, List.setIfInBounds_toArray, List.set_cons_zero, List.set_cons_succ, i64_w, i32_w]
       rfl
      exact norm_ (by simp only [putAll, Act.put, List.setIfInBounds_toArray, List.set_cons_zero, List.set_cons_succ]) (hCont (.slice Ao14 y257.length co14, gb260) _ ⟨hHeld, (rkx HO259), (bkx BK254), (bkx BK255), (bkx BK260), GW260.out, GE260.out, NB254_260.out, NB260_254.out, NB255_260.out, NB260_255.out, (hb3 HB GE254 GE255 GE260)⟩)
     ·skip
      refine box_step ?hg (N := 5) ?hd (cs := #[.int .i64 0, .int .i64 0, .slice none 0 0]) (t := 24) ?hr ?_; (case hd => rfl); (case hg => rfl); (case hr => first | (go_simp; done) | (go_simp; rfl))
      intro gb260 hg w12 hbox hb
      have n0_ := Aside0.mk (blk_below (bkx BK254) hb)
      have n1_ := Aside0.mk (blk_below (bkx BK255) hb)
      have n2_ := Aside0.mk (below_step (hb2 HB GE254 GE255) hb)
      have n3_ := Aside0.mk (hbox)
      have n4_ := Aside0.mk ((by rw [hg]; exact (below_size (hb2 HB GE254 GE255)) : w.heap.size ≤ gb260))
      have n5_ := Aside0.mk ((by rw [hg]; exact (below_size (hb2 HB GE254 GE255)) : w.heap.size ≤ gb260))
      have n6_ := Aside0.mk (nel hg BK254 : gb254 ≠ gb260)
      have n7_ := Aside0.mk (neg hg BK254 : gb260 ≠ gb254)
      have n8_ := Aside0.mk (nel hg BK255 : gb255 ≠ gb260)
      have n9_ := Aside0.mk (neg hg BK255 : gb260 ≠ gb255)
      clear BK254
      clear BK255
      clear HB
      have BK254 := n0_
      have BK255 := n1_
      have HB := n2_
      have BK260 := n3_
      have GW260 := n4_
      have GE260 := n5_
      have NB254_260 := n6_
      have NB260_254 := n7_
      have NB255_260 := n8_
      have NB260_255 := n9_
      clear n0_ n1_ n2_ n3_ n4_ n5_ n6_ n7_ n8_ n9_
      clear hb hbox hg
      refine hK.out _ _ ⟨(blk_cell BK254.out 0).trans rfl, (blk_cell BK254.out 1).trans rfl, (blk_cell BK254.out 2).trans rfl⟩ (fun hHeld => ?_)
      clear hK K
      refine norm_ (a' := ?_) ?_ ?_
      rotate_left
      ·show Act.put _ (some 5) _ = _
       simp only [Act.put, List.setIfInBounds_toArray, List.set_cons_zero, List.set_cons_succ, i64_w, i32_w]
       rfl
      refine one_ (i := 7) (N := some 21) (bA 11 767) rfl rfl (one_of HT_.out (by kernel_rfl)) (by decide) (fun K hK => ?_)
      refine Kd.R_make_step (Kd.int .u8) _ 5 (by rfl) (N := 21) rfl 22 _ _ rfl (l0_2.length : Int) rfl rfl Try.underlying22 (.int .u8 0) 1 info5 rfl (by decide) (by omega) 0 (ok := fun _ => True) (okp := fun _ => True) rfl (fun _ hk => hk) trivial (of_decide_eq_true (by first | (with_reducible assumption) | assumption)) (Nat.le_trans (Nat.mul_le_mul_right _ (of_decide_eq_true (by first | (with_reducible assumption) | assumption) : (l0_2.length : Int).toNat ≤ 281474976710656)) (by omega)) (Below.refl _ _) (Nat.le_refl _) ?_
      intro v258 w13 ho14 hb hg_ hnew_
      clear hg_ hnew_
      (first | rw [← Ny257.out] at ho14 | (simp only [Int.reduceToNat] at ho14; rw [← Ny257.out] at ho14))
      have n0_ := Aside0.mk (Kd.R_lower ho14 (below_size (hb3 HB GE254 GE255 GE260)))
      have n1_ := Aside0.mk (blk_below (bkx BK254) hb)
      have n2_ := Aside0.mk (blk_below (bkx BK255) hb)
      have n3_ := Aside0.mk (blk_below (bkx BK260) hb)
      have n4_ := Aside0.mk (below_step (hb3 HB GE254 GE255 GE260) hb)
      clear BK254
      clear BK255
      clear BK260
      clear HB
      have HO259 := n0_
      have BK254 := n1_
      have BK255 := n2_
      have BK260 := n3_
      have HB := n4_
      clear n0_ n1_ n2_ n3_ n4_
      clear hb ho14
      obtain ⟨Ao15, co15, eo15⟩ := Kd.R_slice HO259.out
      (first | subst eo15 | (injection eo15 with f1_ f2_ f3_; have f4_ := f1_.symm; have f5_ := f3_.symm; clear f1_ f2_ f3_; subst f4_; subst f5_))
      refine hK.out _ _ ⟨(blk_cell BK254.out 0).trans rfl, (blk_cell BK254.out 1).trans rfl, (blk_cell BK254.out 2).trans rfl⟩ (fun hHeld => ?_)
      clear hK K
      refine norm_ (a' := ?_) ?_ ?_
      rotate_left
      ·show Act.put _ (some 21) _ = _
       simp only [Act.put, List.setIfInBounds_toArray, List.set_cons_zero, List.set_cons_succ, i64_w, i32_w]
       rfl
      refine pt HT_ 8 22 ?_
      exact norm_ (by simp only [putAll, Act.put, List.setIfInBounds_toArray, List.set_cons_zero, List.set_cons_succ]) (hCont (.slice Ao15 y257.length co15, gb260) _ ⟨hHeld, (rkx HO259), (bkx BK254), (bkx BK255), (bkx BK260), GW260.out, GE260.out, NB254_260.out, NB260_254.out, NB255_260.out, NB260_255.out, (hb3 HB GE254 GE255 GE260)⟩)
    rintro ⟨v258, gb260⟩ w16 ⟨hS_, h0_, h1_, h2_, h3_, h4_, h5_, h6_, h7_, h8_, h9_, h10_⟩
    have n0_ : Aside0 (Kd.R (Kd.int .u8) 5 w16 w.heap.size (fun _ => True) v258 y257) := ⟨h0_⟩
    have n1_ : Aside0 (w16.heap[gb254]? = some (.cells #[.int .i64 a0_0, .int .i64 a0_1, .slice A0_2 l0_2.length c0_2] 33 (0, 0))) := ⟨h1_⟩
    have n2_ : Aside0 (w16.heap[gb255]? = some (.cells #[.int .i64 0, .int .i64 0, .slice none 0 0] 24 (0, 0))) := ⟨h2_⟩
    have n3_ : Aside0 (w16.heap[gb260]? = some (.cells #[.int .i64 0, .int .i64 0, .slice none 0 0] 24 (0, 0))) := ⟨h3_⟩
    have n4_ : Aside0 (w.heap.size ≤ gb260) := ⟨h4_⟩
    have n5_ : Aside0 (w.heap.size ≤ gb260) := ⟨h5_⟩
    have n6_ : Aside0 (gb254 ≠ gb260) := ⟨h6_⟩
    have n7_ : Aside0 (gb260 ≠ gb254) := ⟨h7_⟩
    have n8_ : Aside0 (gb255 ≠ gb260) := ⟨h8_⟩
    have n9_ : Aside0 (gb260 ≠ gb255) := ⟨h9_⟩
    have n10_ : Aside0 (Below w.heap.size w w16) := ⟨h10_⟩
    clear BK254
    clear BK255
    clear HB
    clear h0_ h1_ h2_ h3_ h4_ h5_ h6_ h7_ h8_ h9_ h10_
    have HO259 := n0_
    have BK254 := n1_
    have BK255 := n2_
    have BK260 := n3_
    have GW260 := n4_
    have GE260 := n5_
    have NB254_260 := n6_
    have NB260_254 := n7_
    have NB255_260 := n8_
    have NB260_255 := n9_
    have HB := n10_
    clear n0_ n1_ n2_ n3_ n4_ n5_ n6_ n7_ n8_ n9_ n10_
    have hHeld : w16.cell? ⟨gb254, 0, none⟩ = some (.int .i64 a0_0) ∧ w16.cell? ⟨gb254, 1, none⟩ = some (.int .i64 a0_1) ∧ w16.cell? ⟨gb254, 2, none⟩ = some (.slice A0_2 l0_2.length c0_2) := hS_
    obtain ⟨Ao17, co17, eo17⟩ := Kd.R_slice HO259.out
    (first | subst eo17 | (injection eo17 with f1_ f2_ f3_; have f4_ := f1_.symm; have f5_ := f3_.symm; clear f1_ f2_ f3_; subst f4_; subst f5_))
    refine norm_ (a' := ?_) ?_ ?_
    rotate_left
    ·simp only [putAll, Act.put, List.setIfInBounds_toArray, List.set_cons_zero, List.set_cons_succ]
     rfl
    refine one_ (i := 10) (N := none) (bA 11 2047) rfl rfl (one_of HT_.out (by kernel_rfl)) (by decide) (fun K hK => ?_)
    have hs18 : w16.cell? ⟨gb260, 0, none⟩ = some (.int .i64 0) := (blk_cell BK260.out 0).trans rfl
    have hfs18 := blk_frozen BK260.out 0
    have hns18_0 := NB254_260.out
    have hns18_1 := NB255_260.out
    have hms18_0 := NB260_254.out
    have hms18_1 := NB260_255.out
    have hs19 : w16.cell? ⟨gb260, 1, none⟩ = some (.int .i64 0) := (blk_cell BK260.out 1).trans rfl
    have hfs19 := blk_frozen BK260.out 1
    have hns19_0 := NB254_260.out
    have hns19_1 := NB255_260.out
    have hms19_0 := NB260_254.out
    have hms19_1 := NB260_255.out
    have hs20 : w16.cell? ⟨gb260, 2, none⟩ = some (.slice none 0 0) := (blk_cell BK260.out 2).trans rfl
    have hfs20 := blk_frozen BK260.out 2
    have hns20_0 := NB254_260.out
    have hns20_1 := NB255_260.out
    have hms20_0 := NB260_254.out
    have hms20_1 := NB260_255.out
    refine skip_ (w1 := ?_) (by rfl) rfl ?_ ?_
    rotate_left
    ·go_simp
     rfl
    refine hK.out _ _ ⟨((cell_far (p := ⟨gb260, _, none⟩) NB254_260.out _).trans (((cell_far (p := ⟨gb260, _, none⟩) NB254_260.out _).trans (((cell_far (p := ⟨gb260, _, none⟩) NB254_260.out _).trans (hHeld.1)))))), ((cell_far (p := ⟨gb260, _, none⟩) NB254_260.out _).trans (((cell_far (p := ⟨gb260, _, none⟩) NB254_260.out _).trans (((cell_far (p := ⟨gb260, _, none⟩) NB254_260.out _).trans (hHeld.2.1)))))), ((cell_far (p := ⟨gb260, _, none⟩) NB254_260.out _).trans (((cell_far (p := ⟨gb260, _, none⟩) NB254_260.out _).trans (((cell_far (p := ⟨gb260, _, none⟩) NB254_260.out _).trans (hHeld.2.2))))))⟩ (fun hHeld => ?_)
    clear hK K
    refine done_ (done_of HT_.out (by kernel_rfl)) ?_
    have hnb21 := NB254_260.out
    have hnc21 := NB260_254.out
    have hcz22_0 : w16.cell? ⟨gb254, 0, none⟩ = some (.int .i64 a0_0) := (blk_cell BK254.out 0).trans rfl
    have hcz22_1 : w16.cell? ⟨gb254, 1, none⟩ = some (.int .i64 a0_1) := (blk_cell BK254.out 1).trans rfl
    have hcz22_2 : w16.cell? ⟨gb254, 2, none⟩ = some (.slice A0_2 l0_2.length c0_2) := (blk_cell BK254.out 2).trans rfl
    have hfz22_0 := blk_frozen BK254.out 0
    have hfz22_1 := blk_frozen BK254.out 1
    have hfz22_2 := blk_frozen BK254.out 2
    try go_wp2
    go_loopg [26] k (fun kq v26 w' => ∃ (x26_1 : Int) (x261002_1 : List Int) (u261002 : Value), v26 = .int .i64 x26_1 ∧ Aside0 (raster_Gray.l0 kq l0_2 (l0_2.length : Int) x26_1 a0_0 a0_1 x261002_1 = some (r1, r2, r3, r4)) ∧ Aside0 (kq ≤ k) ∧ Aside0 (Kd.R (Kd.int .u8) 5 w' w.heap.size (fun _ => True) u261002 x261002_1) ∧ Aside0 (w'.heap[gb254]? = some (.cells #[.int .i64 a0_0, .int .i64 a0_1, (.slice A0_2 l0_2.length c0_2)] 33 (0, 0))) ∧ Aside0 (w'.heap[gb255]? = some (.cells #[.int .i64 0, .int .i64 0, (.slice none 0 0)] 24 (0, 0))) ∧ Aside0 (w'.heap[gb260]? = some (.cells #[.int .i64 a0_0, .int .i64 a0_1, u261002] 24 (0, 0))) ∧ Aside0 (Below w.heap.size w w'))
    case atStart => exact ⟨(0), (y257), (.slice Ao17 y257.length co17), (by first | rfl | (simp; done) | (simp [*]; done)), H', ⟨Nat.le_refl _⟩, ⟨by refine rkt ?_; exact Kd.R_mono (Kd.R_far (p := ⟨gb260, 2, none⟩) (Kd.R_far (p := ⟨gb260, 1, none⟩) (Kd.R_far (p := ⟨gb260, 0, none⟩) (Kd.R_types HO259.out BK260.out (by decide)) (fun _ hk => hk.2) (.int .i64 a0_0)) (fun _ hk => hk.2) (.int .i64 a0_1)) (fun _ hk => hk.2) (.slice Ao17 y257.length co17)) (fun _ hk => trivial)⟩, ⟨bky BK254 NB254_260⟩, ⟨bky BK255 NB255_260⟩, ⟨by refine bkt ?_; refine blk_put (cs := #[.int .i64 a0_0, .int .i64 a0_1, .slice none 0 0]) ?_ 2 _ rfl; refine bkt ?_; refine blk_put (cs := #[.int .i64 a0_0, .int .i64 0, .slice none 0 0]) ?_ 1 _ rfl; refine bkt ?_; refine blk_put (cs := #[.int .i64 0, .int .i64 0, .slice none 0 0]) ?_ 0 _ rfl; refine bkt ?_; exact BK260.out⟩, ⟨hb3 HB GE254 GE255 GE260⟩⟩
    case round =>
     clear H'
     try clear c1
     try clear c2
     try clear p2
     try clear c3
     try clear c3b0
     try clear c3b1
     try clear c4
     try clear c4b0
     try clear c4b1
     try clear c5
     try clear c5b0
     try clear c5b1
     try clear c8
     try clear c17
     try clear c21
     try clear hcz22_0
     try clear hcz22_1
     try clear hcz22_2
     try clear hcz9_0
     try clear hcz9_1
     try clear hcz9_2
     try clear hfz22_0
     try clear hfz22_1
     try clear hfz22_2
     try clear hfz9_0
     try clear hfz9_1
     try clear hfz9_2
     obtain ⟨x26_1, x261002_1, u261002, rfl, HA, HK1, HO_261002, BK254, BK255, BK260, HB⟩ := hrel
     cases gk with
     | zero => exact absurd HA.out (by simp [raster_Gray.l0])
     | succ k1 =>
      have H := HA.out
      clear HA
      simp only [raster_Gray.l0] at H
      by_cases c23 : x26_1 < (l0_2.length : Int)
      ·rw [if_pos c23] at H
       have c23b0 : decide (x26_1 < (l0_2.length : Int)) = true := decide_eq_true c23
       clear c23
       by_cases c24 : 0 ≤ x26_1
       ·rw [if_pos c24] at H
        have c24b0 : decide (0 ≤ x26_1) = true := decide_eq_true c24
        clear c24
        by_cases c25 : x26_1 < (l0_2.length : Int)
        ·rw [if_pos c25] at H
         have c25b0 : decide (x26_1 < (l0_2.length : Int)) = true := decide_eq_true c25
         clear c25
         obtain ⟨bq26, hbq26⟩ : ∃ b_ : Bool, b_ = (rdOf false l0_2 x26_1) := ⟨_, rfl⟩
         replace H : (if bq26 = true then (raster_Gray.l0 k1 l0_2 (l0_2.length : Int) (wrap64 (x26_1 + 1)) a0_0 a0_1 x261002_1) else (if x26_1 < (x261002_1.length : Int) then (raster_Gray.l0 k1 l0_2 (l0_2.length : Int) (wrap64 (x26_1 + 1)) a0_0 a0_1 (x261002_1.set (x26_1 : Int).toNat 255)) else (none))) = some (r1, r2, r3, r4) := by rw [← hbq26] at H; exact H
         have Nbq26 := Aside0.mk hbq26
         clear hbq26
         by_cases c27 : bq26 = true
         ·subst c27
          have H1 : (raster_Gray.l0 k1 l0_2 (l0_2.length : Int) (wrap64 (x26_1 + 1)) a0_0 a0_1 x261002_1) = some (r1, r2, r3, r4) := by rw [if_pos rfl] at H; exact H
          clear H
          have H := H1
          clear H1
          have H' := Aside0.mk H
          clear H
          have p261 : 0 ≤ (x26_1 : Int) := of_decide_eq_true (by first | (with_reducible assumption) | assumption)
          have q261 : x26_1 < (l0_2.length : Int) := of_decide_eq_true (by first | (with_reducible assumption) | assumption)
          obtain ⟨ad261, e261, hx261_0⟩ := Kd.at_bool HR0_2.out x26_1 p261 q261
          (try rw [← Nbq26.out] at hx261_0)
          cases e261
          replace hx261_0 := (HB.out.cell (World.block_lt_of_cell? w _ hx261_0)).trans hx261_0
          replace p261 := eq_true p261
          replace q261 := eq_true q261
          go_wp2
          go_roundg k1
          case measure => have := HK1.out; omega
          case rel => exact ⟨(wrap64 (x26_1 + 1)), (x261002_1), (u261002), (by first | rfl | (simp; done) | (simp [*]; done)), H', ⟨by have := HK1.out; omega⟩, ⟨rkx HO_261002⟩, ⟨bkx BK254⟩, ⟨bkx BK255⟩, ⟨bkx BK260⟩, ⟨hb3 HB GE254 GE255 GE260⟩⟩
         ·replace c27 := Bool.eq_false_iff.mpr c27
          subst c27
          have H1 : (if x26_1 < (x261002_1.length : Int) then (raster_Gray.l0 k1 l0_2 (l0_2.length : Int) (wrap64 (x26_1 + 1)) a0_0 a0_1 (x261002_1.set (x26_1 : Int).toNat 255)) else (none)) = some (r1, r2, r3, r4) := by rw [if_neg (show ¬ (false = true) by decide)] at H; exact H
          clear H
          have H := H1
          clear H1
          by_cases c28 : x26_1 < (x261002_1.length : Int)
          ·rw [if_pos c28] at H
           have c28b0 : decide (x26_1 < (x261002_1.length : Int)) = true := decide_eq_true c28
           clear c28
           obtain ⟨y262, hy262⟩ : ∃ y_ : List Int, y_ = (x261002_1.set (x26_1 : Int).toNat 255) := ⟨_, rfl⟩
           replace H : (raster_Gray.l0 k1 l0_2 (l0_2.length : Int) (wrap64 (x26_1 + 1)) a0_0 a0_1 y262) = some (r1, r2, r3, r4) := by first | (rw [hy262]; with_reducible exact H) | (have H2_ := (Option.bind_some _ _).symm.trans H; rw [hy262]; with_reducible exact H2_) | (have H2_ := (Option.bind_some _ _).symm.trans H; with_reducible exact H2_) | with_reducible exact H | (rw [hy262]; exact H) | exact H
           have Ny262 := Aside0.mk hy262
           clear hy262
           have H' := Aside0.mk H
           clear H
           have p261 : 0 ≤ (x26_1 : Int) := of_decide_eq_true (by first | (with_reducible assumption) | assumption)
           have q261 : x26_1 < (l0_2.length : Int) := of_decide_eq_true (by first | (with_reducible assumption) | assumption)
           obtain ⟨ad261, e261, hx261_0⟩ := Kd.at_bool HR0_2.out x26_1 p261 q261
           (try rw [← Nbq26.out] at hx261_0)
           cases e261
           replace hx261_0 := (HB.out.cell (World.block_lt_of_cell? w _ hx261_0)).trans hx261_0
           replace p261 := eq_true p261
           replace q261 := eq_true q261
           have hnb30 := NB260_254.out
           have hnc30 := NB254_260.out
           have hnb31 := NB260_255.out
           have hnc31 := NB255_260.out
           have hcz32_0 : wr.cell? ⟨gb260, 0, none⟩ = some (.int .i64 a0_0) := (blk_cell BK260.out 0).trans rfl
           have hcz32_1 : wr.cell? ⟨gb260, 1, none⟩ = some (.int .i64 a0_1) := (blk_cell BK260.out 1).trans rfl
           have hcz32_2 : wr.cell? ⟨gb260, 2, none⟩ = some (u261002) := (blk_cell BK260.out 2).trans rfl
           have hfz32_0 := blk_frozen BK260.out 0
           have hfz32_1 := blk_frozen BK260.out 1
           have hfz32_2 := blk_frozen BK260.out 2
           have p29 : 0 ≤ (x26_1 : Int) := of_decide_eq_true (by first | (with_reducible assumption) | assumption)
           have q29 : (x26_1 : Int) < ((x261002_1.length : Int) : Int) := of_decide_eq_true (by first | (with_reducible assumption) | assumption)
           obtain ⟨go29, co29, eo29, gb29, gl29, cl29, HG29⟩ := Kd.R_form HO_261002.out (by omega)
           (first | cases eo29 | (injection eo29 with ea_ en_ ec_; (first | subst ea_ | (injection ea_ with ea_; subst ea_)); subst ec_; clear en_))
           have GB29 := Aside0.mk gb29
           have GG29 := Aside0.mk HG29
           clear gb29 gl29 HG29
           obtain ⟨hx29_0, hf29_0⟩ := Kd.R_celln 0 HO_261002.out (x26_1 : Int) p29 q29
           replace p29 := eq_true p29
           replace q29 := eq_true q29
           have HP33 := Kd.R_putg HO_261002.out (x26_1 : Int) 255
           go_wp2_with (first | ((with_reducible refine gate_store (t := 5) (p := 36) rfl ?_); refine store_event (t := 5) (p := 36) (v := ?vo_w34) (w1 := (wr.setCell ⟨go29, (x26_1 : Int).toNat, none⟩ (.int .u8 255))) ?hg ?ho ?hn ?hr ?_; (case ho => rfl); (case hg => rfl); (case hn => rfl); (case hr => first | (go_simp; done) | (go_simp; rfl)); intro w34 hw; have hg : wr.grownBy w34 (some go29) := (by rw [hw]; exact HP33.2); have hp_ : Kd.R (Kd.int .u8) 5 w34 w.heap.size (fun _ => True) (.slice (some ⟨go29, 0, none⟩) x261002_1.length co29) y262 := (by rw [hw, Ny262.out]; exact HP33.1); clear HP33; have n0_ := Aside0.mk (hp_); have n1_ := Aside0.mk (blk_grown (g := gb254) (o := .cells #[.int .i64 a0_0, .int .i64 a0_1, .slice (some ad261) l0_2.length c0_2] 33 (0, 0)) (bkx BK254) hg (Kd.R_ne HO_261002.out BK254.out (by decide))); have n2_ := Aside0.mk (blk_grown (g := gb255) (o := .cells #[.int .i64 0, .int .i64 0, .slice none 0 0] 24 (0, 0)) (bkx BK255) hg (Kd.R_ne HO_261002.out BK255.out (by decide))); have n3_ := Aside0.mk (blk_grown (g := gb260) (o := .cells #[.int .i64 a0_0, .int .i64 a0_1, .slice (some ⟨go29, 0, none⟩) x261002_1.length co29] 24 (0, 0)) (bkx BK260) hg (Kd.R_ne HO_261002.out BK260.out (by decide))); have n4_ := Aside0.mk ((by rw [hw]; exact below_set (HB.out) GB29.out : Below w.heap.size w w34)); clear HO_261002; clear BK254; clear BK255; clear BK260; clear HB; have HO_261002 := n0_; have BK254 := n1_; have BK255 := n2_; have BK260 := n3_; have HB := n4_; clear n0_ n1_ n2_ n3_ n4_; clear hg hw hp_))
           go_roundg k1
           case measure => have := HK1.out; omega
           case rel => exact ⟨(wrap64 (x26_1 + 1)), (y262), (.slice (some ⟨go29, 0, none⟩) x261002_1.length co29), (by first | rfl | (simp; done) | (simp [*]; done)), H', ⟨by have := HK1.out; omega⟩, ⟨rkx HO_261002⟩, ⟨bkx BK254⟩, ⟨bkx BK255⟩, ⟨bkx BK260⟩, ⟨hb3 HB GE254 GE255 GE260⟩⟩
          ·rw [if_neg c28] at H
           exact absurd H (by simp)
        ·rw [if_neg c25] at H
         exact absurd H (by simp)
       ·rw [if_neg c24] at H
        exact absurd H (by simp)
      ·rw [if_neg c23] at H
       have c23b0 : decide (x26_1 < (l0_2.length : Int)) = false := decide_eq_false c23
       clear c23
       simp only [Option.some.injEq, Prod.mk.injEq] at H
       obtain ⟨rfl, rfl, rfl, rfl⟩ := H
       have hnb35 := NB260_254.out
       have hnc35 := NB254_260.out
       have hnb36 := NB260_255.out
       have hnc36 := NB255_260.out
       have hcz37_0 : wr.cell? ⟨gb260, 0, none⟩ = some (.int .i64 a0_0) := (blk_cell BK260.out 0).trans rfl
       have hcz37_1 : wr.cell? ⟨gb260, 1, none⟩ = some (.int .i64 a0_1) := (blk_cell BK260.out 1).trans rfl
       have hcz37_2 : wr.cell? ⟨gb260, 2, none⟩ = some (u261002) := (blk_cell BK260.out 2).trans rfl
       have hfz37_0 := blk_frozen BK260.out 0
       have hfz37_1 := blk_frozen BK260.out 1
       have hfz37_2 := blk_frozen BK260.out 2
       have hnb38 := NB255_254.out
       have hnc38 := NB254_255.out
       have hcz39_0 : wr.cell? ⟨gb255, 0, none⟩ = some (.int .i64 0) := (blk_cell BK255.out 0).trans rfl
       have hcz39_1 : wr.cell? ⟨gb255, 1, none⟩ = some (.int .i64 0) := (blk_cell BK255.out 1).trans rfl
       have hcz39_2 : wr.cell? ⟨gb255, 2, none⟩ = some (.slice none 0 0) := (blk_cell BK255.out 2).trans rfl
       have hfz39_0 := blk_frozen BK255.out 0
       have hfz39_1 := blk_frozen BK255.out 1
       have hfz39_2 := blk_frozen BK255.out 2
       obtain ⟨Ao40, co40, eo40⟩ := Kd.R_slice HO_261002.out
       subst eo40
       go_wp2
       refine bodyPost_ret (results_ct rfl _ _ gb255 24 #[.int .i64 a0_0, .int .i64 a0_1, .slice Ao40 x261002_1.length co40] (0, 0) _ rfl (by refine bkt ?_; refine blk_put (cs := #[.int .i64 a0_0, .int .i64 a0_1, .slice none 0 0]) ?_ 2 _ rfl; refine bkt ?_; refine blk_put (cs := #[.int .i64 a0_0, .int .i64 0, .slice none 0 0]) ?_ 1 _ rfl; refine bkt ?_; refine blk_put (cs := #[.int .i64 0, .int .i64 0, .slice none 0 0]) ?_ 0 _ rfl; refine bkt ?_; exact BK255.out) Try.underlying24 rfl (by kernel_rfl)) rfl ?_
       exact ⟨_, by first | rfl | (simp [errW_none, errW_some] <;> rfl) | (simp [*, errW_none, errW_some] <;> rfl), by refine rkt ?_; exact Kd.R_mono (Kd.R_far (p := ⟨gb255, 2, none⟩) (Kd.R_far (p := ⟨gb255, 1, none⟩) (Kd.R_far (p := ⟨gb255, 0, none⟩) (Kd.R_types HO_261002.out BK255.out (by decide)) (fun _ hk => hk.2) (.int .i64 a0_0)) (fun _ hk => hk.2) (.int .i64 a0_1)) (fun _ hk => hk.2) (.slice Ao40 x261002_1.length co40)) (fun _ hk => trivial), by repeat (first | (with_reducible first | exact HB.out | apply below_alloc | apply pw_below_drewN | apply below_drew1 | refine below_set ?_ GE254.out | refine below_set ?_ GE255.out | refine below_set ?_ GE260.out) | exact HB.out)⟩
   ·rw [if_neg c5] at H
    exact absurd H (by simp)
  ·rw [if_neg c4] at H
   exact absurd H (by simp)
 ·rw [if_neg c3] at H
  have c3b0 : (t256 == 0) = false := beq_eq_false_iff_ne.mpr c3
  have c3b1 : (t256 != 0) = true := bne_iff_ne.mpr c3
  simp only [Option.some.injEq, Prod.mk.injEq] at H
  obtain ⟨rfl, rfl, rfl, rfl⟩ := H
  go_enter Try.func17, Try.ntmps17
  go_wp2_with (first | ((with_reducible refine gate_dst (N := 1) rfl ?_); refine box_event ?hg (N := 1) ?hd (cs := #[.int .i64 a0_0, .int .i64 a0_1, .slice A0_2 l0_2.length c0_2]) (t := 33) ?hr ?_; (case hd => rfl); (case hg => rfl); (case hr => first | (go_simp; done) | (go_simp; rfl)); intro gb254 hg w41 hbox hb; have n0_ := Aside0.mk (below_step (hb0 HB) hb); have n1_ := Aside0.mk (hbox); have n2_ := Aside0.mk ((by rw [hg]; exact (below_size (hb0 HB)) : w.heap.size ≤ gb254)); have n3_ := Aside0.mk ((by rw [hg]; exact (below_size (hb0 HB)) : w.heap.size ≤ gb254)); clear HB; have HB := n0_; have BK254 := n1_; have GW254 := n2_; have GE254 := n3_; clear n0_ n1_ n2_ n3_; clear hb hbox hg) | ((with_reducible refine gate_dst (N := 2) rfl ?_); refine box_event ?hg (N := 2) ?hd (cs := #[.int .i64 0, .int .i64 0, .slice none 0 0]) (t := 24) ?hr ?_; (case hd => rfl); (case hg => rfl); (case hr => first | (go_simp; done) | (go_simp; rfl)); intro gb255 hg w42 hbox hb; have n0_ := Aside0.mk (blk_below (bkx BK254) hb); have n1_ := Aside0.mk (below_step (hb1 HB GE254) hb); have n2_ := Aside0.mk (hbox); have n3_ := Aside0.mk ((by rw [hg]; exact (below_size (hb1 HB GE254)) : w.heap.size ≤ gb255)); have n4_ := Aside0.mk ((by rw [hg]; exact (below_size (hb1 HB GE254)) : w.heap.size ≤ gb255)); have n5_ := Aside0.mk (nel hg BK254 : gb254 ≠ gb255); have n6_ := Aside0.mk (neg hg BK254 : gb255 ≠ gb254); clear BK254; clear HB; have BK254 := n0_; have HB := n1_; have BK255 := n2_; have GW255 := n3_; have GE255 := n4_; have NB254_255 := n5_; have NB255_254 := n6_; clear n0_ n1_ n2_ n3_ n4_ n5_ n6_; clear hb hbox hg; have hnb43 := NB254_255.out; have hnc43 := NB255_254.out; have hcz44_0 : w42.cell? ⟨gb254, 0, none⟩ = some (.int .i64 a0_0) := (blk_cell BK254.out 0).trans rfl; have hcz44_1 : w42.cell? ⟨gb254, 1, none⟩ = some (.int .i64 a0_1) := (blk_cell BK254.out 1).trans rfl; have hcz44_2 : w42.cell? ⟨gb254, 2, none⟩ = some (.slice A0_2 l0_2.length c0_2) := (blk_cell BK254.out 2).trans rfl; have hfz44_0 := blk_frozen BK254.out 0; have hfz44_1 := blk_frozen BK254.out 1; have hfz44_2 := blk_frozen BK254.out 2) | ((with_reducible refine gate_callee (f := 35) rfl ?_); refine goesL_ (some 9) rfl rfl Try.func35 (by kernel_rfl) rfl #[.agg #[.int .i64 a0_0, .int .i64 a0_1, .slice A0_2 l0_2.length c0_2]] rfl mapx ?_; (with_reducible refine (raster_Check.calls a0_0 a0_1 _ _ l0_2 t256 _ ?side1 ?side2 A2.out).mono ?_); (case side1 => repeat (first | exact (Kd.C_below HR0_2.out HB.out) | (with_reducible refine Kd.C_alloc ?_ _) | (with_reducible refine Kd.C_drewN ?_ _) | (with_reducible refine Kd.C_drew ?_))); (case side2 => exact HC0_2.out); rintro e w45 ⟨rfl, hb⟩; refine ⟨_, rfl, ?_⟩; have n0_ := Aside0.mk (blk_below (bkx BK254) hb); have n1_ := Aside0.mk (blk_below (bkx BK255) hb); have n2_ := Aside0.mk (below_step (hb2 HB GE254 GE255) hb); clear BK254; clear BK255; clear HB; have BK254 := n0_; have BK255 := n1_; have HB := n2_; clear n0_ n1_ n2_; (try clear hb); (try clear hb2); (try clear hk); (try clear hi); have hcz46_0 : w45.cell? ⟨gb255, 0, none⟩ = some (.int .i64 0) := (blk_cell BK255.out 0).trans rfl; have hcz46_1 : w45.cell? ⟨gb255, 1, none⟩ = some (.int .i64 0) := (blk_cell BK255.out 1).trans rfl; have hcz46_2 : w45.cell? ⟨gb255, 2, none⟩ = some (.slice none 0 0) := (blk_cell BK255.out 2).trans rfl; have hfz46_0 := blk_frozen BK255.out 0; have hfz46_1 := blk_frozen BK255.out 1; have hfz46_2 := blk_frozen BK255.out 2))
  refine bodyPost_ret (results_ct rfl _ _ gb255 24 #[.int .i64 0, .int .i64 0, .slice none 0 0] (0, 0) _ rfl (by refine bkt ?_; refine blk_put (cs := #[.int .i64 0, .int .i64 0, .slice none 0 0]) ?_ 2 _ rfl; refine bkt ?_; refine blk_put (cs := #[.int .i64 0, .int .i64 0, .slice none 0 0]) ?_ 1 _ rfl; refine bkt ?_; refine blk_put (cs := #[.int .i64 0, .int .i64 0, .slice none 0 0]) ?_ 0 _ rfl; refine bkt ?_; exact BK255.out) Try.underlying24 rfl (by kernel_rfl)) rfl ?_
  exact ⟨_, by first | rfl | (simp [errW_none, errW_some] <;> rfl) | (simp [*, errW_none, errW_some] <;> rfl), by first | exact Kd.R_nil _ _ _ _ _ | exact Kd.N_nil _ _ _ _ _ | exact Kd.V_nil _ _ _ _ _ | exact Kd.Q_nil _ _ _ _ _ | exact Kd.S_nil _ _ _ _ _, by repeat (first | (with_reducible first | exact HB.out | apply below_alloc | apply pw_below_drewN | apply below_drew1 | refine below_set ?_ GE254.out | refine below_set ?_ GE255.out) | exact HB.out)⟩

-- NOT PRINTED: function 36 (printing_degradations)

/-! ### printing_Print: function 15 -/
theorem printing_Print.run_store_func {P : Program} {w : World} {a : Addr} {m : Mode} (f : Fn) (xs ys : Array Value) : (store a (.func f xs ys) m).run P w = stored P w a (.func f xs ys) m := run_store P w a _ m rfl
attribute [local go_sem] printing_Print.run_store_func
theorem printing_Print.u8_flat {w : World} {base : Nat} {ok1 ok2 : Nat → Prop} {x : Int} {cs : List Value} (h : (Kd.int .u8).M w base ok1 x cs) : (Kd.int .u8).M w base ok2 x cs := h
set_option maxHeartbeats 2000000 in
/-- The steps of a damage: three closures over one variable. -/
theorem printing_Print.deg_calls (a1_0 a1_1 a1_2 a1_3 : Int) (w : World) :
  Calls Try.prog 36 #[.agg #[.int .i64 a1_0, .int .i64 a1_1, .int .i64 a1_2, .int .u32 a1_3]] w fun e w' => ∃ gS gD, e = .returned (.slice (some ⟨gS, 0, none⟩) 3 3) ∧ w.heap.size ≤ gS ∧ w.heap.size ≤ gD ∧
   w'.heap[gS]? = some (.cells #[.func (.func 53) #[] #[.pointer (some ⟨gD, 0, none⟩)], .func (.func 55) #[] #[.pointer (some ⟨gD, 0, none⟩)], .func (.func 56) #[] #[.pointer (some ⟨gD, 0, none⟩)]] 69 (0, 0)) ∧
   w'.heap[gD]? = some (.cells #[.int .i64 a1_0, .int .i64 a1_1, .int .i64 a1_2, .int .u32 a1_3] 38 (0, 0)) ∧ Below w.heap.size w w' := by
 have hu38 := Try.underlying38
 have hu69 := Try.underlying69
 have hu65 := Try.underlying65
 go_enter Try.func36, Try.ntmps36
 go_wp2
 go_ret
 refine ⟨w.heap.size + 1, w.heap.size, rfl, by omega, Nat.le_refl _, ?_, blk_alloc (blk_new _ _) _, ((Below.refl _ w).alloc (Nat.le_refl _) _).alloc (by simp) _⟩
 have h1 := blk_new (w.alloc (.cells #[.int .i64 a1_0, .int .i64 a1_1, .int .i64 a1_2, .int .u32 a1_3] 38 (0, 0))) (.cells #[.func (.func 53) #[] #[.pointer (some ⟨w.heap.size, 0, none⟩)], .func (.func 55) #[] #[.pointer (some ⟨w.heap.size, 0, none⟩)], .func (.func 56) #[] #[.pointer (some ⟨w.heap.size, 0, none⟩)]] 69 (0, 0))
 rw [World.size_alloc] at h1
 exact h1
def printing_Print.f (k : Nat) (a0_0 : Int) (a0_1 : Int) (l0_2 : List Bool) (a1_0 : Int) (a1_1 : Int) (a1_2 : Int) (a1_3 : Int) : Option (Int × Int × List Int × Int) := (raster_Check.f a0_0 a0_1 l0_2).bind fun t216 => (if t216 = 0 then (if a1_1 < 0 then (some (0, 0, ([] : List Int), 3)) else (if a1_1 > 64 then (some (0, 0, ([] : List Int), 3)) else (if a1_2 < 0 then (some (0, 0, ([] : List Int), 3)) else (if a1_2 > (mn (l0_2.length : Int) 65536) then (some (0, 0, ([] : List Int), 3)) else ((raster_Gray.f k a0_0 a0_1 l0_2).bind fun bt217 => ((printing_degradations_1.f k bt217.1 bt217.2.1 bt217.2.2.1 a1_0 a1_1 a1_2 a1_3).bind fun bt224 => ((printing_degradations_2.f k bt224.1 bt224.2.1 bt224.2.2 a1_0 a1_1 a1_2 a1_3).bind fun bt229 => ((printing_degradations_3.f k bt229.1 bt229.2.1 bt229.2.2 a1_0 a1_1 a1_2 a1_3).bind fun bt234 => (some (bt234.1, bt234.2.1, bt234.2.2, 0)))))))))) else (some (0, 0, ([] : List Int), 1)))
theorem printing_Print.mono : ∀ a0 a1 a2 a3 a4 a5 a6 k, LeO (printing_Print.f k a0 a1 a2 a3 a4 a5 a6) (printing_Print.f (k + 1) a0 a1 a2 a3 a4 a5 a6) := by
 intro a0 a1 a2 a3 a4 a5 a6 k
 unfold printing_Print.f
 repeat' first
   | (with_reducible exact printing_degradations_1.mono _ _ _ _ _ _ _ _)
   | (with_reducible exact printing_degradations_2.mono _ _ _ _ _ _ _ _)
   | (with_reducible exact printing_degradations_3.mono _ _ _ _ _ _ _ _)
   | (with_reducible exact raster_Gray.mono _ _ _ _)
   | (with_reducible exact LeO.refl _)
   | (with_reducible exact LeO.none _)
   | (with_reducible refine LeO.ite ?_ ?_)
   | (with_reducible refine LeO.bind ?_ (fun _ => ?_))
   | exact printing_degradations_1.mono _ _ _ _ _ _ _ _
   | exact printing_degradations_2.mono _ _ _ _ _ _ _ _
   | exact printing_degradations_3.mono _ _ _ _ _ _ _ _
   | exact raster_Gray.mono _ _ _ _
   | exact LeO.none _
   | refine LeO.ite ?_ ?_
   | refine LeO.bind ?_ (fun _ => ?_)
set_option maxHeartbeats 8000000 in
set_option maxRecDepth 100000 in
theorem printing_Print.calls (k : Nat) (a0_0 : Int) (a0_1 : Int) (A0_2 : Option Addr) (c0_2 : Nat) (l0_2 : List Bool) (a1_0 : Int) (a1_1 : Int) (a1_2 : Int) (a1_3 : Int) (r1 : Int) (r2 : Int) (r3 : List Int) (r4 : Int) (w : World) (hr0_2 : Kd.C Kd.bool w A0_2 l0_2.length l0_2) (hc0_2 : l0_2.length ≤ c0_2) (h : printing_Print.f k a0_0 a0_1 l0_2 a1_0 a1_1 a1_2 a1_3 = some (r1, r2, r3, r4)) :
  Calls Try.prog 15 #[.agg #[.int .i64 a0_0, .int .i64 a0_1, .slice A0_2 l0_2.length c0_2], .agg #[.int .i64 a1_0, .int .i64 a1_1, .int .i64 a1_2, .int .u32 a1_3]] w fun e w' => ∃ v2_ : Value, e = .returned (.tuple #[.agg #[.int .i64 r1, .int .i64 r2, v2_], .int .i64 r4]) ∧ Kd.R (Kd.int .u8) 5 w' w.heap.size (fun _ => True) v2_ r3 ∧ Below w.heap.size w w' := by
 have hu33 := Try.underlying33
 have hu38 := Try.underlying38
 have hu24 := Try.underlying24
 have HR0_2 := Aside0.mk hr0_2
 have HC0_2 := Aside0.mk hc0_2
 clear hr0_2 hc0_2
 have HB := Aside0.mk (Below.refl w.heap.size w)
 have H : ((raster_Check.f a0_0 a0_1 l0_2).bind fun t216 => (if t216 = 0 then (if a1_1 < 0 then (some (0, 0, ([] : List Int), 3)) else (if a1_1 > 64 then (some (0, 0, ([] : List Int), 3)) else (if a1_2 < 0 then (some (0, 0, ([] : List Int), 3)) else (if a1_2 > (mn (l0_2.length : Int) 65536) then (some (0, 0, ([] : List Int), 3)) else ((raster_Gray.f k a0_0 a0_1 l0_2).bind fun bt217 => ((printing_degradations_1.f k bt217.1 bt217.2.1 bt217.2.2.1 a1_0 a1_1 a1_2 a1_3).bind fun bt224 => ((printing_degradations_2.f k bt224.1 bt224.2.1 bt224.2.2 a1_0 a1_1 a1_2 a1_3).bind fun bt229 => ((printing_degradations_3.f k bt229.1 bt229.2.1 bt229.2.2 a1_0 a1_1 a1_2 a1_3).bind fun bt234 => (some (bt234.1, bt234.2.1, bt234.2.2, 0)))))))))) else (some (0, 0, ([] : List Int), 1)))) = some (r1, r2, r3, r4) := h
 clear h
 replace H := Option.bind_eq_some_iff.mp H
 obtain ⟨t216, A30, H⟩ := H
 replace H : (if t216 = 0 then (if a1_1 < 0 then (some (0, 0, ([] : List Int), 3)) else (if a1_1 > 64 then (some (0, 0, ([] : List Int), 3)) else (if a1_2 < 0 then (some (0, 0, ([] : List Int), 3)) else (if a1_2 > (mn (l0_2.length : Int) 65536) then (some (0, 0, ([] : List Int), 3)) else ((raster_Gray.f k a0_0 a0_1 l0_2).bind fun bt217 => ((printing_degradations_1.f k bt217.1 bt217.2.1 bt217.2.2.1 a1_0 a1_1 a1_2 a1_3).bind fun bt224 => ((printing_degradations_2.f k bt224.1 bt224.2.1 bt224.2.2 a1_0 a1_1 a1_2 a1_3).bind fun bt229 => ((printing_degradations_3.f k bt229.1 bt229.2.1 bt229.2.2 a1_0 a1_1 a1_2 a1_3).bind fun bt234 => (some (bt234.1, bt234.2.1, bt234.2.2, 0)))))))))) else (some (0, 0, ([] : List Int), 1))) = some (r1, r2, r3, r4) := H
 have A3 := Aside0.mk A30
 clear A30
 by_cases c4 : t216 = 0
 ·rw [if_pos c4] at H
  have c4b0 : (t216 == 0) = true := beq_iff_eq.mpr c4
  have c4b1 : (t216 != 0) = false := bne_eq_false_iff_eq.mpr c4
  clear c4
  by_cases c5 : a1_1 < 0
  ·rw [if_pos c5] at H
   have c5b0 : decide (a1_1 < 0) = true := decide_eq_true c5
   clear c5
   simp only [Option.some.injEq, Prod.mk.injEq] at H
   obtain ⟨rfl, rfl, rfl, rfl⟩ := H
   go_enter Try.func15, Try.ntmps15
   go_wp2_with (first | ((with_reducible refine gate_dst (N := 2) rfl ?_); (try (refine gate_guard (by rfl) ?_; dsimp only)); refine box_event ?hg (N := 2) ?hd (cs := #[.int .i64 a0_0, .int .i64 a0_1, .slice A0_2 l0_2.length c0_2]) (t := 33) ?hr ?_; (case hd => rfl); (case hg => rfl); (case hr => first | (go_simp; done) | (go_simp; rfl)); intro gb213 hg w6 hbox hb; have n0_ := Aside0.mk (below_step (hb0 HB) hb); have n1_ := Aside0.mk (hbox); have n2_ := Aside0.mk ((by rw [hg]; exact (below_size (hb0 HB)) : w.heap.size ≤ gb213)); have n3_ := Aside0.mk ((by rw [hg]; exact (below_size (hb0 HB)) : w.heap.size ≤ gb213)); clear HB; have HB := n0_; have BK213 := n1_; have GW213 := n2_; have GE213 := n3_; clear n0_ n1_ n2_ n3_; clear hb hbox hg) | ((with_reducible refine gate_dst (N := 3) rfl ?_); (try (refine gate_guard (by rfl) ?_; dsimp only)); refine box_event ?hg (N := 3) ?hd (cs := #[.int .i64 a1_0, .int .i64 a1_1, .int .i64 a1_2, .int .u32 a1_3]) (t := 38) ?hr ?_; (case hd => rfl); (case hg => rfl); (case hr => first | (go_simp; done) | (go_simp; rfl)); intro gb214 hg w7 hbox hb; have n0_ := Aside0.mk (blk_below (bkx BK213) hb); have n1_ := Aside0.mk (below_step (hb1 HB GE213) hb); have n2_ := Aside0.mk (hbox); have n3_ := Aside0.mk ((by rw [hg]; exact (below_size (hb1 HB GE213)) : w.heap.size ≤ gb214)); have n4_ := Aside0.mk ((by rw [hg]; exact (below_size (hb1 HB GE213)) : w.heap.size ≤ gb214)); have n5_ := Aside0.mk (nel hg BK213 : gb213 ≠ gb214); have n6_ := Aside0.mk (neg hg BK213 : gb214 ≠ gb213); clear BK213; clear HB; have BK213 := n0_; have HB := n1_; have BK214 := n2_; have GW214 := n3_; have GE214 := n4_; have NB213_214 := n5_; have NB214_213 := n6_; clear n0_ n1_ n2_ n3_ n4_ n5_ n6_; clear hb hbox hg) | ((with_reducible refine gate_dst (N := 4) rfl ?_); (try (refine gate_guard (by rfl) ?_; dsimp only)); refine box_event ?hg (N := 4) ?hd (cs := #[.int .i64 0, .int .i64 0, .slice none 0 0]) (t := 24) ?hr ?_; (case hd => rfl); (case hg => rfl); (case hr => first | (go_simp; done) | (go_simp; rfl)); intro gb215 hg w8 hbox hb; have n0_ := Aside0.mk (blk_below (bkx BK213) hb); have n1_ := Aside0.mk (blk_below (bkx BK214) hb); have n2_ := Aside0.mk (below_step (hb2 HB GE213 GE214) hb); have n3_ := Aside0.mk (hbox); have n4_ := Aside0.mk ((by rw [hg]; exact (below_size (hb2 HB GE213 GE214)) : w.heap.size ≤ gb215)); have n5_ := Aside0.mk ((by rw [hg]; exact (below_size (hb2 HB GE213 GE214)) : w.heap.size ≤ gb215)); have n6_ := Aside0.mk (nel hg BK213 : gb213 ≠ gb215); have n7_ := Aside0.mk (neg hg BK213 : gb215 ≠ gb213); have n8_ := Aside0.mk (nel hg BK214 : gb214 ≠ gb215); have n9_ := Aside0.mk (neg hg BK214 : gb215 ≠ gb214); clear BK213; clear BK214; clear HB; have BK213 := n0_; have BK214 := n1_; have HB := n2_; have BK215 := n3_; have GW215 := n4_; have GE215 := n5_; have NB213_215 := n6_; have NB215_213 := n7_; have NB214_215 := n8_; have NB215_214 := n9_; clear n0_ n1_ n2_ n3_ n4_ n5_ n6_ n7_ n8_ n9_; clear hb hbox hg; have hnb9 := NB213_214.out; have hnc9 := NB214_213.out; have hnb10 := NB213_215.out; have hnc10 := NB215_213.out; have hcz11_0 : w8.cell? ⟨gb213, 0, none⟩ = some (.int .i64 a0_0) := (blk_cell BK213.out 0).trans rfl; have hcz11_1 : w8.cell? ⟨gb213, 1, none⟩ = some (.int .i64 a0_1) := (blk_cell BK213.out 1).trans rfl; have hcz11_2 : w8.cell? ⟨gb213, 2, none⟩ = some (.slice A0_2 l0_2.length c0_2) := (blk_cell BK213.out 2).trans rfl; have hfz11_0 := blk_frozen BK213.out 0; have hfz11_1 := blk_frozen BK213.out 1; have hfz11_2 := blk_frozen BK213.out 2) | ((with_reducible refine gate_callee (f := 35) rfl ?_); refine goesL_ (some 12) rfl rfl Try.func35 (by kernel_rfl) rfl #[.agg #[.int .i64 a0_0, .int .i64 a0_1, .slice A0_2 l0_2.length c0_2]] rfl mapx ?_; (with_reducible refine (raster_Check.calls a0_0 a0_1 _ _ l0_2 t216 _ ?side1 ?side2 A3.out).mono ?_); (case side1 => repeat (first | exact (Kd.C_below HR0_2.out HB.out) | (with_reducible refine Kd.C_alloc ?_ _) | (with_reducible refine Kd.C_drewN ?_ _) | (with_reducible refine Kd.C_drew ?_))); (case side2 => exact HC0_2.out); rintro e w12 ⟨rfl, hb⟩; refine ⟨_, rfl, ?_⟩; have n0_ := Aside0.mk (blk_below (bkx BK213) hb); have n1_ := Aside0.mk (blk_below (bkx BK214) hb); have n2_ := Aside0.mk (blk_below (bkx BK215) hb); have n3_ := Aside0.mk (below_step (hb3 HB GE213 GE214 GE215) hb); clear BK213; clear BK214; clear BK215; clear HB; have BK213 := n0_; have BK214 := n1_; have BK215 := n2_; have HB := n3_; clear n0_ n1_ n2_ n3_; (try clear hb); (try clear hb2); (try clear hk); (try clear hi); have hnb13 := NB214_215.out; have hnc13 := NB215_214.out; have hcz14_0 : w12.cell? ⟨gb214, 0, none⟩ = some (.int .i64 a1_0) := (blk_cell BK214.out 0).trans rfl; have hcz14_1 : w12.cell? ⟨gb214, 1, none⟩ = some (.int .i64 a1_1) := (blk_cell BK214.out 1).trans rfl; have hcz14_2 : w12.cell? ⟨gb214, 2, none⟩ = some (.int .i64 a1_2) := (blk_cell BK214.out 2).trans rfl; have hcz14_3 : w12.cell? ⟨gb214, 3, none⟩ = some (.int .u32 a1_3) := (blk_cell BK214.out 3).trans rfl; have hfz14_0 := blk_frozen BK214.out 0; have hfz14_1 := blk_frozen BK214.out 1; have hfz14_2 := blk_frozen BK214.out 2; have hfz14_3 := blk_frozen BK214.out 3; have hcz15_0 : w12.cell? ⟨gb215, 0, none⟩ = some (.int .i64 0) := (blk_cell BK215.out 0).trans rfl; have hcz15_1 : w12.cell? ⟨gb215, 1, none⟩ = some (.int .i64 0) := (blk_cell BK215.out 1).trans rfl; have hcz15_2 : w12.cell? ⟨gb215, 2, none⟩ = some (.slice none 0 0) := (blk_cell BK215.out 2).trans rfl; have hfz15_0 := blk_frozen BK215.out 0; have hfz15_1 := blk_frozen BK215.out 1; have hfz15_2 := blk_frozen BK215.out 2))
   refine bodyPost_ret (results_ct rfl _ _ gb215 24 #[.int .i64 0, .int .i64 0, .slice none 0 0] (0, 0) _ rfl (by refine bkt ?_; refine blk_put (cs := #[.int .i64 0, .int .i64 0, .slice none 0 0]) ?_ 2 _ rfl; refine bkt ?_; refine blk_put (cs := #[.int .i64 0, .int .i64 0, .slice none 0 0]) ?_ 1 _ rfl; refine bkt ?_; refine blk_put (cs := #[.int .i64 0, .int .i64 0, .slice none 0 0]) ?_ 0 _ rfl; refine bkt ?_; exact BK215.out) Try.underlying24 rfl (by kernel_rfl)) rfl ?_
   exact ⟨_, by first | rfl | (simp [errW_none, errW_some] <;> rfl) | (simp [*, errW_none, errW_some] <;> rfl), by first | exact Kd.R_nil _ _ _ _ _ | exact Kd.N_nil _ _ _ _ _ | exact Kd.V_nil _ _ _ _ _ | exact Kd.Q_nil _ _ _ _ _ | exact Kd.S_nil _ _ _ _ _, by repeat (first | (with_reducible first | exact HB.out | apply below_alloc | apply pw_below_drewN | apply below_drew1 | refine below_set ?_ GE213.out | refine below_set ?_ GE214.out | refine below_set ?_ GE215.out) | exact HB.out)⟩
  ·rw [if_neg c5] at H
   have c5b0 : decide (a1_1 < 0) = false := decide_eq_false c5
   clear c5
   by_cases c16 : a1_1 > 64
   ·rw [if_pos c16] at H
    have c16b0 : decide (64 < a1_1) = true := decide_eq_true c16
    clear c16
    simp only [Option.some.injEq, Prod.mk.injEq] at H
    obtain ⟨rfl, rfl, rfl, rfl⟩ := H
    go_enter Try.func15, Try.ntmps15
    go_wp2_with (first | ((with_reducible refine gate_dst (N := 2) rfl ?_); (try (refine gate_guard (by rfl) ?_; dsimp only)); refine box_event ?hg (N := 2) ?hd (cs := #[.int .i64 a0_0, .int .i64 a0_1, .slice A0_2 l0_2.length c0_2]) (t := 33) ?hr ?_; (case hd => rfl); (case hg => rfl); (case hr => first | (go_simp; done) | (go_simp; rfl)); intro gb213 hg w17 hbox hb; have n0_ := Aside0.mk (below_step (hb0 HB) hb); have n1_ := Aside0.mk (hbox); have n2_ := Aside0.mk ((by rw [hg]; exact (below_size (hb0 HB)) : w.heap.size ≤ gb213)); have n3_ := Aside0.mk ((by rw [hg]; exact (below_size (hb0 HB)) : w.heap.size ≤ gb213)); clear HB; have HB := n0_; have BK213 := n1_; have GW213 := n2_; have GE213 := n3_; clear n0_ n1_ n2_ n3_; clear hb hbox hg) | ((with_reducible refine gate_dst (N := 3) rfl ?_); (try (refine gate_guard (by rfl) ?_; dsimp only)); refine box_event ?hg (N := 3) ?hd (cs := #[.int .i64 a1_0, .int .i64 a1_1, .int .i64 a1_2, .int .u32 a1_3]) (t := 38) ?hr ?_; (case hd => rfl); (case hg => rfl); (case hr => first | (go_simp; done) | (go_simp; rfl)); intro gb214 hg w18 hbox hb; have n0_ := Aside0.mk (blk_below (bkx BK213) hb); have n1_ := Aside0.mk (below_step (hb1 HB GE213) hb); have n2_ := Aside0.mk (hbox); have n3_ := Aside0.mk ((by rw [hg]; exact (below_size (hb1 HB GE213)) : w.heap.size ≤ gb214)); have n4_ := Aside0.mk ((by rw [hg]; exact (below_size (hb1 HB GE213)) : w.heap.size ≤ gb214)); have n5_ := Aside0.mk (nel hg BK213 : gb213 ≠ gb214); have n6_ := Aside0.mk (neg hg BK213 : gb214 ≠ gb213); clear BK213; clear HB; have BK213 := n0_; have HB := n1_; have BK214 := n2_; have GW214 := n3_; have GE214 := n4_; have NB213_214 := n5_; have NB214_213 := n6_; clear n0_ n1_ n2_ n3_ n4_ n5_ n6_; clear hb hbox hg) | ((with_reducible refine gate_dst (N := 4) rfl ?_); (try (refine gate_guard (by rfl) ?_; dsimp only)); refine box_event ?hg (N := 4) ?hd (cs := #[.int .i64 0, .int .i64 0, .slice none 0 0]) (t := 24) ?hr ?_; (case hd => rfl); (case hg => rfl); (case hr => first | (go_simp; done) | (go_simp; rfl)); intro gb215 hg w19 hbox hb; have n0_ := Aside0.mk (blk_below (bkx BK213) hb); have n1_ := Aside0.mk (blk_below (bkx BK214) hb); have n2_ := Aside0.mk (below_step (hb2 HB GE213 GE214) hb); have n3_ := Aside0.mk (hbox); have n4_ := Aside0.mk ((by rw [hg]; exact (below_size (hb2 HB GE213 GE214)) : w.heap.size ≤ gb215)); have n5_ := Aside0.mk ((by rw [hg]; exact (below_size (hb2 HB GE213 GE214)) : w.heap.size ≤ gb215)); have n6_ := Aside0.mk (nel hg BK213 : gb213 ≠ gb215); have n7_ := Aside0.mk (neg hg BK213 : gb215 ≠ gb213); have n8_ := Aside0.mk (nel hg BK214 : gb214 ≠ gb215); have n9_ := Aside0.mk (neg hg BK214 : gb215 ≠ gb214); clear BK213; clear BK214; clear HB; have BK213 := n0_; have BK214 := n1_; have HB := n2_; have BK215 := n3_; have GW215 := n4_; have GE215 := n5_; have NB213_215 := n6_; have NB215_213 := n7_; have NB214_215 := n8_; have NB215_214 := n9_; clear n0_ n1_ n2_ n3_ n4_ n5_ n6_ n7_ n8_ n9_; clear hb hbox hg; have hnb20 := NB213_214.out; have hnc20 := NB214_213.out; have hnb21 := NB213_215.out; have hnc21 := NB215_213.out; have hcz22_0 : w19.cell? ⟨gb213, 0, none⟩ = some (.int .i64 a0_0) := (blk_cell BK213.out 0).trans rfl; have hcz22_1 : w19.cell? ⟨gb213, 1, none⟩ = some (.int .i64 a0_1) := (blk_cell BK213.out 1).trans rfl; have hcz22_2 : w19.cell? ⟨gb213, 2, none⟩ = some (.slice A0_2 l0_2.length c0_2) := (blk_cell BK213.out 2).trans rfl; have hfz22_0 := blk_frozen BK213.out 0; have hfz22_1 := blk_frozen BK213.out 1; have hfz22_2 := blk_frozen BK213.out 2) | ((with_reducible refine gate_callee (f := 35) rfl ?_); refine goesL_ (some 12) rfl rfl Try.func35 (by kernel_rfl) rfl #[.agg #[.int .i64 a0_0, .int .i64 a0_1, .slice A0_2 l0_2.length c0_2]] rfl mapx ?_; (with_reducible refine (raster_Check.calls a0_0 a0_1 _ _ l0_2 t216 _ ?side1 ?side2 A3.out).mono ?_); (case side1 => repeat (first | exact (Kd.C_below HR0_2.out HB.out) | (with_reducible refine Kd.C_alloc ?_ _) | (with_reducible refine Kd.C_drewN ?_ _) | (with_reducible refine Kd.C_drew ?_))); (case side2 => exact HC0_2.out); rintro e w23 ⟨rfl, hb⟩; refine ⟨_, rfl, ?_⟩; have n0_ := Aside0.mk (blk_below (bkx BK213) hb); have n1_ := Aside0.mk (blk_below (bkx BK214) hb); have n2_ := Aside0.mk (blk_below (bkx BK215) hb); have n3_ := Aside0.mk (below_step (hb3 HB GE213 GE214 GE215) hb); clear BK213; clear BK214; clear BK215; clear HB; have BK213 := n0_; have BK214 := n1_; have BK215 := n2_; have HB := n3_; clear n0_ n1_ n2_ n3_; (try clear hb); (try clear hb2); (try clear hk); (try clear hi); have hnb24 := NB214_215.out; have hnc24 := NB215_214.out; have hcz25_0 : w23.cell? ⟨gb214, 0, none⟩ = some (.int .i64 a1_0) := (blk_cell BK214.out 0).trans rfl; have hcz25_1 : w23.cell? ⟨gb214, 1, none⟩ = some (.int .i64 a1_1) := (blk_cell BK214.out 1).trans rfl; have hcz25_2 : w23.cell? ⟨gb214, 2, none⟩ = some (.int .i64 a1_2) := (blk_cell BK214.out 2).trans rfl; have hcz25_3 : w23.cell? ⟨gb214, 3, none⟩ = some (.int .u32 a1_3) := (blk_cell BK214.out 3).trans rfl; have hfz25_0 := blk_frozen BK214.out 0; have hfz25_1 := blk_frozen BK214.out 1; have hfz25_2 := blk_frozen BK214.out 2; have hfz25_3 := blk_frozen BK214.out 3; have hcz26_0 : w23.cell? ⟨gb215, 0, none⟩ = some (.int .i64 0) := (blk_cell BK215.out 0).trans rfl; have hcz26_1 : w23.cell? ⟨gb215, 1, none⟩ = some (.int .i64 0) := (blk_cell BK215.out 1).trans rfl; have hcz26_2 : w23.cell? ⟨gb215, 2, none⟩ = some (.slice none 0 0) := (blk_cell BK215.out 2).trans rfl; have hfz26_0 := blk_frozen BK215.out 0; have hfz26_1 := blk_frozen BK215.out 1; have hfz26_2 := blk_frozen BK215.out 2))
    refine bodyPost_ret (results_ct rfl _ _ gb215 24 #[.int .i64 0, .int .i64 0, .slice none 0 0] (0, 0) _ rfl (by refine bkt ?_; refine blk_put (cs := #[.int .i64 0, .int .i64 0, .slice none 0 0]) ?_ 2 _ rfl; refine bkt ?_; refine blk_put (cs := #[.int .i64 0, .int .i64 0, .slice none 0 0]) ?_ 1 _ rfl; refine bkt ?_; refine blk_put (cs := #[.int .i64 0, .int .i64 0, .slice none 0 0]) ?_ 0 _ rfl; refine bkt ?_; exact BK215.out) Try.underlying24 rfl (by kernel_rfl)) rfl ?_
    exact ⟨_, by first | rfl | (simp [errW_none, errW_some] <;> rfl) | (simp [*, errW_none, errW_some] <;> rfl), by first | exact Kd.R_nil _ _ _ _ _ | exact Kd.N_nil _ _ _ _ _ | exact Kd.V_nil _ _ _ _ _ | exact Kd.Q_nil _ _ _ _ _ | exact Kd.S_nil _ _ _ _ _, by repeat (first | (with_reducible first | exact HB.out | apply below_alloc | apply pw_below_drewN | apply below_drew1 | refine below_set ?_ GE213.out | refine below_set ?_ GE214.out | refine below_set ?_ GE215.out) | exact HB.out)⟩
   ·rw [if_neg c16] at H
    have c16b0 : decide (64 < a1_1) = false := decide_eq_false c16
    clear c16
    by_cases c27 : a1_2 < 0
    ·rw [if_pos c27] at H
     have c27b0 : decide (a1_2 < 0) = true := decide_eq_true c27
     clear c27
     simp only [Option.some.injEq, Prod.mk.injEq] at H
     obtain ⟨rfl, rfl, rfl, rfl⟩ := H
     go_enter Try.func15, Try.ntmps15
     go_wp2_with (first | ((with_reducible refine gate_dst (N := 2) rfl ?_); (try (refine gate_guard (by rfl) ?_; dsimp only)); refine box_event ?hg (N := 2) ?hd (cs := #[.int .i64 a0_0, .int .i64 a0_1, .slice A0_2 l0_2.length c0_2]) (t := 33) ?hr ?_; (case hd => rfl); (case hg => rfl); (case hr => first | (go_simp; done) | (go_simp; rfl)); intro gb213 hg w28 hbox hb; have n0_ := Aside0.mk (below_step (hb0 HB) hb); have n1_ := Aside0.mk (hbox); have n2_ := Aside0.mk ((by rw [hg]; exact (below_size (hb0 HB)) : w.heap.size ≤ gb213)); have n3_ := Aside0.mk ((by rw [hg]; exact (below_size (hb0 HB)) : w.heap.size ≤ gb213)); clear HB; have HB := n0_; have BK213 := n1_; have GW213 := n2_; have GE213 := n3_; clear n0_ n1_ n2_ n3_; clear hb hbox hg) | ((with_reducible refine gate_dst (N := 3) rfl ?_); (try (refine gate_guard (by rfl) ?_; dsimp only)); refine box_event ?hg (N := 3) ?hd (cs := #[.int .i64 a1_0, .int .i64 a1_1, .int .i64 a1_2, .int .u32 a1_3]) (t := 38) ?hr ?_; (case hd => rfl); (case hg => rfl); (case hr => first | (go_simp; done) | (go_simp; rfl)); intro gb214 hg w29 hbox hb; have n0_ := Aside0.mk (blk_below (bkx BK213) hb); have n1_ := Aside0.mk (below_step (hb1 HB GE213) hb); have n2_ := Aside0.mk (hbox); have n3_ := Aside0.mk ((by rw [hg]; exact (below_size (hb1 HB GE213)) : w.heap.size ≤ gb214)); have n4_ := Aside0.mk ((by rw [hg]; exact (below_size (hb1 HB GE213)) : w.heap.size ≤ gb214)); have n5_ := Aside0.mk (nel hg BK213 : gb213 ≠ gb214); have n6_ := Aside0.mk (neg hg BK213 : gb214 ≠ gb213); clear BK213; clear HB; have BK213 := n0_; have HB := n1_; have BK214 := n2_; have GW214 := n3_; have GE214 := n4_; have NB213_214 := n5_; have NB214_213 := n6_; clear n0_ n1_ n2_ n3_ n4_ n5_ n6_; clear hb hbox hg) | ((with_reducible refine gate_dst (N := 4) rfl ?_); (try (refine gate_guard (by rfl) ?_; dsimp only)); refine box_event ?hg (N := 4) ?hd (cs := #[.int .i64 0, .int .i64 0, .slice none 0 0]) (t := 24) ?hr ?_; (case hd => rfl); (case hg => rfl); (case hr => first | (go_simp; done) | (go_simp; rfl)); intro gb215 hg w30 hbox hb; have n0_ := Aside0.mk (blk_below (bkx BK213) hb); have n1_ := Aside0.mk (blk_below (bkx BK214) hb); have n2_ := Aside0.mk (below_step (hb2 HB GE213 GE214) hb); have n3_ := Aside0.mk (hbox); have n4_ := Aside0.mk ((by rw [hg]; exact (below_size (hb2 HB GE213 GE214)) : w.heap.size ≤ gb215)); have n5_ := Aside0.mk ((by rw [hg]; exact (below_size (hb2 HB GE213 GE214)) : w.heap.size ≤ gb215)); have n6_ := Aside0.mk (nel hg BK213 : gb213 ≠ gb215); have n7_ := Aside0.mk (neg hg BK213 : gb215 ≠ gb213); have n8_ := Aside0.mk (nel hg BK214 : gb214 ≠ gb215); have n9_ := Aside0.mk (neg hg BK214 : gb215 ≠ gb214); clear BK213; clear BK214; clear HB; have BK213 := n0_; have BK214 := n1_; have HB := n2_; have BK215 := n3_; have GW215 := n4_; have GE215 := n5_; have NB213_215 := n6_; have NB215_213 := n7_; have NB214_215 := n8_; have NB215_214 := n9_; clear n0_ n1_ n2_ n3_ n4_ n5_ n6_ n7_ n8_ n9_; clear hb hbox hg; have hnb31 := NB213_214.out; have hnc31 := NB214_213.out; have hnb32 := NB213_215.out; have hnc32 := NB215_213.out; have hcz33_0 : w30.cell? ⟨gb213, 0, none⟩ = some (.int .i64 a0_0) := (blk_cell BK213.out 0).trans rfl; have hcz33_1 : w30.cell? ⟨gb213, 1, none⟩ = some (.int .i64 a0_1) := (blk_cell BK213.out 1).trans rfl; have hcz33_2 : w30.cell? ⟨gb213, 2, none⟩ = some (.slice A0_2 l0_2.length c0_2) := (blk_cell BK213.out 2).trans rfl; have hfz33_0 := blk_frozen BK213.out 0; have hfz33_1 := blk_frozen BK213.out 1; have hfz33_2 := blk_frozen BK213.out 2) | ((with_reducible refine gate_callee (f := 35) rfl ?_); refine goesL_ (some 12) rfl rfl Try.func35 (by kernel_rfl) rfl #[.agg #[.int .i64 a0_0, .int .i64 a0_1, .slice A0_2 l0_2.length c0_2]] rfl mapx ?_; (with_reducible refine (raster_Check.calls a0_0 a0_1 _ _ l0_2 t216 _ ?side1 ?side2 A3.out).mono ?_); (case side1 => repeat (first | exact (Kd.C_below HR0_2.out HB.out) | (with_reducible refine Kd.C_alloc ?_ _) | (with_reducible refine Kd.C_drewN ?_ _) | (with_reducible refine Kd.C_drew ?_))); (case side2 => exact HC0_2.out); rintro e w34 ⟨rfl, hb⟩; refine ⟨_, rfl, ?_⟩; have n0_ := Aside0.mk (blk_below (bkx BK213) hb); have n1_ := Aside0.mk (blk_below (bkx BK214) hb); have n2_ := Aside0.mk (blk_below (bkx BK215) hb); have n3_ := Aside0.mk (below_step (hb3 HB GE213 GE214 GE215) hb); clear BK213; clear BK214; clear BK215; clear HB; have BK213 := n0_; have BK214 := n1_; have BK215 := n2_; have HB := n3_; clear n0_ n1_ n2_ n3_; (try clear hb); (try clear hb2); (try clear hk); (try clear hi); have hnb35 := NB214_215.out; have hnc35 := NB215_214.out; have hcz36_0 : w34.cell? ⟨gb214, 0, none⟩ = some (.int .i64 a1_0) := (blk_cell BK214.out 0).trans rfl; have hcz36_1 : w34.cell? ⟨gb214, 1, none⟩ = some (.int .i64 a1_1) := (blk_cell BK214.out 1).trans rfl; have hcz36_2 : w34.cell? ⟨gb214, 2, none⟩ = some (.int .i64 a1_2) := (blk_cell BK214.out 2).trans rfl; have hcz36_3 : w34.cell? ⟨gb214, 3, none⟩ = some (.int .u32 a1_3) := (blk_cell BK214.out 3).trans rfl; have hfz36_0 := blk_frozen BK214.out 0; have hfz36_1 := blk_frozen BK214.out 1; have hfz36_2 := blk_frozen BK214.out 2; have hfz36_3 := blk_frozen BK214.out 3; have hcz37_0 : w34.cell? ⟨gb215, 0, none⟩ = some (.int .i64 0) := (blk_cell BK215.out 0).trans rfl; have hcz37_1 : w34.cell? ⟨gb215, 1, none⟩ = some (.int .i64 0) := (blk_cell BK215.out 1).trans rfl; have hcz37_2 : w34.cell? ⟨gb215, 2, none⟩ = some (.slice none 0 0) := (blk_cell BK215.out 2).trans rfl; have hfz37_0 := blk_frozen BK215.out 0; have hfz37_1 := blk_frozen BK215.out 1; have hfz37_2 := blk_frozen BK215.out 2))
     refine bodyPost_ret (results_ct rfl _ _ gb215 24 #[.int .i64 0, .int .i64 0, .slice none 0 0] (0, 0) _ rfl (by refine bkt ?_; refine blk_put (cs := #[.int .i64 0, .int .i64 0, .slice none 0 0]) ?_ 2 _ rfl; refine bkt ?_; refine blk_put (cs := #[.int .i64 0, .int .i64 0, .slice none 0 0]) ?_ 1 _ rfl; refine bkt ?_; refine blk_put (cs := #[.int .i64 0, .int .i64 0, .slice none 0 0]) ?_ 0 _ rfl; refine bkt ?_; exact BK215.out) Try.underlying24 rfl (by kernel_rfl)) rfl ?_
     exact ⟨_, by first | rfl | (simp [errW_none, errW_some] <;> rfl) | (simp [*, errW_none, errW_some] <;> rfl), by first | exact Kd.R_nil _ _ _ _ _ | exact Kd.N_nil _ _ _ _ _ | exact Kd.V_nil _ _ _ _ _ | exact Kd.Q_nil _ _ _ _ _ | exact Kd.S_nil _ _ _ _ _, by repeat (first | (with_reducible first | exact HB.out | apply below_alloc | apply pw_below_drewN | apply below_drew1 | refine below_set ?_ GE213.out | refine below_set ?_ GE214.out | refine below_set ?_ GE215.out) | exact HB.out)⟩
    ·rw [if_neg c27] at H
     have c27b0 : decide (a1_2 < 0) = false := decide_eq_false c27
     clear c27
     obtain ⟨ji38, hji38⟩ : ∃ j_ : Int, (mn (l0_2.length : Int) 65536) = j_ := ⟨_, rfl⟩
     replace H : (if a1_2 > (ji38) then (some (0, 0, ([] : List Int), 3)) else ((raster_Gray.f k a0_0 a0_1 l0_2).bind fun bt217 => ((printing_degradations_1.f k bt217.1 bt217.2.1 bt217.2.2.1 a1_0 a1_1 a1_2 a1_3).bind fun bt224 => ((printing_degradations_2.f k bt224.1 bt224.2.1 bt224.2.2 a1_0 a1_1 a1_2 a1_3).bind fun bt229 => ((printing_degradations_3.f k bt229.1 bt229.2.1 bt229.2.2 a1_0 a1_1 a1_2 a1_3).bind fun bt234 => (some (bt234.1, bt234.2.1, bt234.2.2, 0))))))) = some (r1, r2, r3, r4) := by first | (rw [hji38] at H; exact H) | (simp only [hji38] at H ⊢; exact H)
     (try rw [hji38] at A3)
     (try (have hji38h : ji38 ≤ 65536 := by (rw [← hji38]; unfold mn; (repeat' split) <;> omega)))
     (try (have hji38g : ji38 ≤ 64 := by omega))
     (try (have hji38l : 0 ≤ ji38 := by (rw [← hji38]; unfold mn; (repeat' split) <;> omega)))
     (try (have hji38m : 0 ≤ ji38 := by omega))
     have hji38_ : (if 65536 < (l0_2.length : Int) then 65536 else (l0_2.length : Int)) = ji38 := hji38
     by_cases c39 : a1_2 > (ji38)
     ·rw [if_pos c39] at H
      have c39b0 : decide ((ji38) < a1_2) = true := decide_eq_true c39
      clear c39
      simp only [Option.some.injEq, Prod.mk.injEq] at H
      obtain ⟨rfl, rfl, rfl, rfl⟩ := H
      go_enter Try.func15, Try.ntmps15
      go_wp2_with (first | ((with_reducible refine gate_dst (N := 2) rfl ?_); (try (refine gate_guard (by rfl) ?_; dsimp only)); refine box_event ?hg (N := 2) ?hd (cs := #[.int .i64 a0_0, .int .i64 a0_1, .slice A0_2 l0_2.length c0_2]) (t := 33) ?hr ?_; (case hd => rfl); (case hg => rfl); (case hr => first | (go_simp; done) | (go_simp; rfl)); intro gb213 hg w40 hbox hb; have n0_ := Aside0.mk (below_step (hb0 HB) hb); have n1_ := Aside0.mk (hbox); have n2_ := Aside0.mk ((by rw [hg]; exact (below_size (hb0 HB)) : w.heap.size ≤ gb213)); have n3_ := Aside0.mk ((by rw [hg]; exact (below_size (hb0 HB)) : w.heap.size ≤ gb213)); clear HB; have HB := n0_; have BK213 := n1_; have GW213 := n2_; have GE213 := n3_; clear n0_ n1_ n2_ n3_; clear hb hbox hg) | ((with_reducible refine gate_dst (N := 3) rfl ?_); (try (refine gate_guard (by rfl) ?_; dsimp only)); refine box_event ?hg (N := 3) ?hd (cs := #[.int .i64 a1_0, .int .i64 a1_1, .int .i64 a1_2, .int .u32 a1_3]) (t := 38) ?hr ?_; (case hd => rfl); (case hg => rfl); (case hr => first | (go_simp; done) | (go_simp; rfl)); intro gb214 hg w41 hbox hb; have n0_ := Aside0.mk (blk_below (bkx BK213) hb); have n1_ := Aside0.mk (below_step (hb1 HB GE213) hb); have n2_ := Aside0.mk (hbox); have n3_ := Aside0.mk ((by rw [hg]; exact (below_size (hb1 HB GE213)) : w.heap.size ≤ gb214)); have n4_ := Aside0.mk ((by rw [hg]; exact (below_size (hb1 HB GE213)) : w.heap.size ≤ gb214)); have n5_ := Aside0.mk (nel hg BK213 : gb213 ≠ gb214); have n6_ := Aside0.mk (neg hg BK213 : gb214 ≠ gb213); clear BK213; clear HB; have BK213 := n0_; have HB := n1_; have BK214 := n2_; have GW214 := n3_; have GE214 := n4_; have NB213_214 := n5_; have NB214_213 := n6_; clear n0_ n1_ n2_ n3_ n4_ n5_ n6_; clear hb hbox hg) | ((with_reducible refine gate_dst (N := 4) rfl ?_); (try (refine gate_guard (by rfl) ?_; dsimp only)); refine box_event ?hg (N := 4) ?hd (cs := #[.int .i64 0, .int .i64 0, .slice none 0 0]) (t := 24) ?hr ?_; (case hd => rfl); (case hg => rfl); (case hr => first | (go_simp; done) | (go_simp; rfl)); intro gb215 hg w42 hbox hb; have n0_ := Aside0.mk (blk_below (bkx BK213) hb); have n1_ := Aside0.mk (blk_below (bkx BK214) hb); have n2_ := Aside0.mk (below_step (hb2 HB GE213 GE214) hb); have n3_ := Aside0.mk (hbox); have n4_ := Aside0.mk ((by rw [hg]; exact (below_size (hb2 HB GE213 GE214)) : w.heap.size ≤ gb215)); have n5_ := Aside0.mk ((by rw [hg]; exact (below_size (hb2 HB GE213 GE214)) : w.heap.size ≤ gb215)); have n6_ := Aside0.mk (nel hg BK213 : gb213 ≠ gb215); have n7_ := Aside0.mk (neg hg BK213 : gb215 ≠ gb213); have n8_ := Aside0.mk (nel hg BK214 : gb214 ≠ gb215); have n9_ := Aside0.mk (neg hg BK214 : gb215 ≠ gb214); clear BK213; clear BK214; clear HB; have BK213 := n0_; have BK214 := n1_; have HB := n2_; have BK215 := n3_; have GW215 := n4_; have GE215 := n5_; have NB213_215 := n6_; have NB215_213 := n7_; have NB214_215 := n8_; have NB215_214 := n9_; clear n0_ n1_ n2_ n3_ n4_ n5_ n6_ n7_ n8_ n9_; clear hb hbox hg; have hnb43 := NB213_214.out; have hnc43 := NB214_213.out; have hnb44 := NB213_215.out; have hnc44 := NB215_213.out; have hcz45_0 : w42.cell? ⟨gb213, 0, none⟩ = some (.int .i64 a0_0) := (blk_cell BK213.out 0).trans rfl; have hcz45_1 : w42.cell? ⟨gb213, 1, none⟩ = some (.int .i64 a0_1) := (blk_cell BK213.out 1).trans rfl; have hcz45_2 : w42.cell? ⟨gb213, 2, none⟩ = some (.slice A0_2 l0_2.length c0_2) := (blk_cell BK213.out 2).trans rfl; have hfz45_0 := blk_frozen BK213.out 0; have hfz45_1 := blk_frozen BK213.out 1; have hfz45_2 := blk_frozen BK213.out 2) | ((with_reducible refine gate_callee (f := 35) rfl ?_); refine goesL_ (some 12) rfl rfl Try.func35 (by kernel_rfl) rfl #[.agg #[.int .i64 a0_0, .int .i64 a0_1, .slice A0_2 l0_2.length c0_2]] rfl mapx ?_; (with_reducible refine (raster_Check.calls a0_0 a0_1 _ _ l0_2 t216 _ ?side1 ?side2 A3.out).mono ?_); (case side1 => repeat (first | exact (Kd.C_below HR0_2.out HB.out) | (with_reducible refine Kd.C_alloc ?_ _) | (with_reducible refine Kd.C_drewN ?_ _) | (with_reducible refine Kd.C_drew ?_))); (case side2 => exact HC0_2.out); rintro e w46 ⟨rfl, hb⟩; refine ⟨_, rfl, ?_⟩; have n0_ := Aside0.mk (blk_below (bkx BK213) hb); have n1_ := Aside0.mk (blk_below (bkx BK214) hb); have n2_ := Aside0.mk (blk_below (bkx BK215) hb); have n3_ := Aside0.mk (below_step (hb3 HB GE213 GE214 GE215) hb); clear BK213; clear BK214; clear BK215; clear HB; have BK213 := n0_; have BK214 := n1_; have BK215 := n2_; have HB := n3_; clear n0_ n1_ n2_ n3_; (try clear hb); (try clear hb2); (try clear hk); (try clear hi); have hnb47 := NB214_215.out; have hnc47 := NB215_214.out; have hcz48_0 : w46.cell? ⟨gb214, 0, none⟩ = some (.int .i64 a1_0) := (blk_cell BK214.out 0).trans rfl; have hcz48_1 : w46.cell? ⟨gb214, 1, none⟩ = some (.int .i64 a1_1) := (blk_cell BK214.out 1).trans rfl; have hcz48_2 : w46.cell? ⟨gb214, 2, none⟩ = some (.int .i64 a1_2) := (blk_cell BK214.out 2).trans rfl; have hcz48_3 : w46.cell? ⟨gb214, 3, none⟩ = some (.int .u32 a1_3) := (blk_cell BK214.out 3).trans rfl; have hfz48_0 := blk_frozen BK214.out 0; have hfz48_1 := blk_frozen BK214.out 1; have hfz48_2 := blk_frozen BK214.out 2; have hfz48_3 := blk_frozen BK214.out 3; have hcz49_0 : w46.cell? ⟨gb213, 0, none⟩ = some (.int .i64 a0_0) := (blk_cell BK213.out 0).trans rfl; have hcz49_1 : w46.cell? ⟨gb213, 1, none⟩ = some (.int .i64 a0_1) := (blk_cell BK213.out 1).trans rfl; have hcz49_2 : w46.cell? ⟨gb213, 2, none⟩ = some (.slice A0_2 l0_2.length c0_2) := (blk_cell BK213.out 2).trans rfl; have hfz49_0 := blk_frozen BK213.out 0; have hfz49_1 := blk_frozen BK213.out 1; have hfz49_2 := blk_frozen BK213.out 2; have hcz50_0 : w46.cell? ⟨gb215, 0, none⟩ = some (.int .i64 0) := (blk_cell BK215.out 0).trans rfl; have hcz50_1 : w46.cell? ⟨gb215, 1, none⟩ = some (.int .i64 0) := (blk_cell BK215.out 1).trans rfl; have hcz50_2 : w46.cell? ⟨gb215, 2, none⟩ = some (.slice none 0 0) := (blk_cell BK215.out 2).trans rfl; have hfz50_0 := blk_frozen BK215.out 0; have hfz50_1 := blk_frozen BK215.out 1; have hfz50_2 := blk_frozen BK215.out 2))
      refine bodyPost_ret (results_ct rfl _ _ gb215 24 #[.int .i64 0, .int .i64 0, .slice none 0 0] (0, 0) _ rfl (by refine bkt ?_; refine blk_put (cs := #[.int .i64 0, .int .i64 0, .slice none 0 0]) ?_ 2 _ rfl; refine bkt ?_; refine blk_put (cs := #[.int .i64 0, .int .i64 0, .slice none 0 0]) ?_ 1 _ rfl; refine bkt ?_; refine blk_put (cs := #[.int .i64 0, .int .i64 0, .slice none 0 0]) ?_ 0 _ rfl; refine bkt ?_; exact BK215.out) Try.underlying24 rfl (by kernel_rfl)) rfl ?_
      exact ⟨_, by first | rfl | (simp [errW_none, errW_some] <;> rfl) | (simp only [← hji38]; first | rfl | (simp [errW_none, errW_some] <;> rfl)) | (simp [*, errW_none, errW_some] <;> rfl), by first | exact Kd.R_nil _ _ _ _ _ | exact Kd.N_nil _ _ _ _ _ | exact Kd.V_nil _ _ _ _ _ | exact Kd.Q_nil _ _ _ _ _ | exact Kd.S_nil _ _ _ _ _, by repeat (first | (with_reducible first | exact HB.out | apply below_alloc | apply pw_below_drewN | apply below_drew1 | refine below_set ?_ GE213.out | refine below_set ?_ GE214.out | refine below_set ?_ GE215.out) | exact HB.out)⟩
     ·rw [if_neg c39] at H
      have c39b0 : decide ((ji38) < a1_2) = false := decide_eq_false c39
      clear c39
      replace H := Option.bind_eq_some_iff.mp H
      obtain ⟨⟨t217, t218, t219, t222⟩, A510, H⟩ := H
      replace H : ((printing_degradations_1.f k t217 t218 t219 a1_0 a1_1 a1_2 a1_3).bind fun bt224 => ((printing_degradations_2.f k bt224.1 bt224.2.1 bt224.2.2 a1_0 a1_1 a1_2 a1_3).bind fun bt229 => ((printing_degradations_3.f k bt229.1 bt229.2.1 bt229.2.2 a1_0 a1_1 a1_2 a1_3).bind fun bt234 => (some (bt234.1, bt234.2.1, bt234.2.2, 0))))) = some (r1, r2, r3, r4) := H
      have A51 := Aside0.mk A510
      clear A510
      replace H := Option.bind_eq_some_iff.mp H
      obtain ⟨⟨t224, t225, t226⟩, A520, H⟩ := H
      replace H : ((printing_degradations_2.f k t224 t225 t226 a1_0 a1_1 a1_2 a1_3).bind fun bt229 => ((printing_degradations_3.f k bt229.1 bt229.2.1 bt229.2.2 a1_0 a1_1 a1_2 a1_3).bind fun bt234 => (some (bt234.1, bt234.2.1, bt234.2.2, 0)))) = some (r1, r2, r3, r4) := H
      have A52 := Aside0.mk A520
      clear A520
      replace H := Option.bind_eq_some_iff.mp H
      obtain ⟨⟨t229, t230, t231⟩, A530, H⟩ := H
      replace H : ((printing_degradations_3.f k t229 t230 t231 a1_0 a1_1 a1_2 a1_3).bind fun bt234 => (some (bt234.1, bt234.2.1, bt234.2.2, 0))) = some (r1, r2, r3, r4) := H
      have A53 := Aside0.mk A530
      clear A530
      replace H := Option.bind_eq_some_iff.mp H
      obtain ⟨⟨t234, t235, t236⟩, A540, H⟩ := H
      replace H : (some (t234, t235, t236, 0)) = some (r1, r2, r3, r4) := H
      have A54 := Aside0.mk A540
      clear A540
      simp only [Option.some.injEq, Prod.mk.injEq] at H
      obtain ⟨rfl, rfl, rfl, rfl⟩ := H
      go_enter Try.func15, Try.ntmps15
      go_wp2_with (first | ((with_reducible refine gate_dst (N := 2) rfl ?_); (try (refine gate_guard (by rfl) ?_; dsimp only)); refine box_event ?hg (N := 2) ?hd (cs := #[.int .i64 a0_0, .int .i64 a0_1, .slice A0_2 l0_2.length c0_2]) (t := 33) ?hr ?_; (case hd => rfl); (case hg => rfl); (case hr => first | (go_simp; done) | (go_simp; rfl)); intro gb213 hg w55 hbox hb; have n0_ := Aside0.mk (below_step (hb0 HB) hb); have n1_ := Aside0.mk (hbox); have n2_ := Aside0.mk ((by rw [hg]; exact (below_size (hb0 HB)) : w.heap.size ≤ gb213)); have n3_ := Aside0.mk ((by rw [hg]; exact (below_size (hb0 HB)) : w.heap.size ≤ gb213)); clear HB; have HB := n0_; have BK213 := n1_; have GW213 := n2_; have GE213 := n3_; clear n0_ n1_ n2_ n3_; clear hb hbox hg) | ((with_reducible refine gate_dst (N := 3) rfl ?_); (try (refine gate_guard (by rfl) ?_; dsimp only)); refine box_event ?hg (N := 3) ?hd (cs := #[.int .i64 a1_0, .int .i64 a1_1, .int .i64 a1_2, .int .u32 a1_3]) (t := 38) ?hr ?_; (case hd => rfl); (case hg => rfl); (case hr => first | (go_simp; done) | (go_simp; rfl)); intro gb214 hg w56 hbox hb; have n0_ := Aside0.mk (blk_below (bkx BK213) hb); have n1_ := Aside0.mk (below_step (hb1 HB GE213) hb); have n2_ := Aside0.mk (hbox); have n3_ := Aside0.mk ((by rw [hg]; exact (below_size (hb1 HB GE213)) : w.heap.size ≤ gb214)); have n4_ := Aside0.mk ((by rw [hg]; exact (below_size (hb1 HB GE213)) : w.heap.size ≤ gb214)); have n5_ := Aside0.mk (nel hg BK213 : gb213 ≠ gb214); have n6_ := Aside0.mk (neg hg BK213 : gb214 ≠ gb213); clear BK213; clear HB; have BK213 := n0_; have HB := n1_; have BK214 := n2_; have GW214 := n3_; have GE214 := n4_; have NB213_214 := n5_; have NB214_213 := n6_; clear n0_ n1_ n2_ n3_ n4_ n5_ n6_; clear hb hbox hg) | ((with_reducible refine gate_dst (N := 4) rfl ?_); (try (refine gate_guard (by rfl) ?_; dsimp only)); refine box_event ?hg (N := 4) ?hd (cs := #[.int .i64 0, .int .i64 0, .slice none 0 0]) (t := 24) ?hr ?_; (case hd => rfl); (case hg => rfl); (case hr => first | (go_simp; done) | (go_simp; rfl)); intro gb215 hg w57 hbox hb; have n0_ := Aside0.mk (blk_below (bkx BK213) hb); have n1_ := Aside0.mk (blk_below (bkx BK214) hb); have n2_ := Aside0.mk (below_step (hb2 HB GE213 GE214) hb); have n3_ := Aside0.mk (hbox); have n4_ := Aside0.mk ((by rw [hg]; exact (below_size (hb2 HB GE213 GE214)) : w.heap.size ≤ gb215)); have n5_ := Aside0.mk ((by rw [hg]; exact (below_size (hb2 HB GE213 GE214)) : w.heap.size ≤ gb215)); have n6_ := Aside0.mk (nel hg BK213 : gb213 ≠ gb215); have n7_ := Aside0.mk (neg hg BK213 : gb215 ≠ gb213); have n8_ := Aside0.mk (nel hg BK214 : gb214 ≠ gb215); have n9_ := Aside0.mk (neg hg BK214 : gb215 ≠ gb214); clear BK213; clear BK214; clear HB; have BK213 := n0_; have BK214 := n1_; have HB := n2_; have BK215 := n3_; have GW215 := n4_; have GE215 := n5_; have NB213_215 := n6_; have NB215_213 := n7_; have NB214_215 := n8_; have NB215_214 := n9_; clear n0_ n1_ n2_ n3_ n4_ n5_ n6_ n7_ n8_ n9_; clear hb hbox hg; have hnb58 := NB213_214.out; have hnc58 := NB214_213.out; have hnb59 := NB213_215.out; have hnc59 := NB215_213.out; have hcz60_0 : w57.cell? ⟨gb213, 0, none⟩ = some (.int .i64 a0_0) := (blk_cell BK213.out 0).trans rfl; have hcz60_1 : w57.cell? ⟨gb213, 1, none⟩ = some (.int .i64 a0_1) := (blk_cell BK213.out 1).trans rfl; have hcz60_2 : w57.cell? ⟨gb213, 2, none⟩ = some (.slice A0_2 l0_2.length c0_2) := (blk_cell BK213.out 2).trans rfl; have hfz60_0 := blk_frozen BK213.out 0; have hfz60_1 := blk_frozen BK213.out 1; have hfz60_2 := blk_frozen BK213.out 2) | ((with_reducible refine gate_callee (f := 35) rfl ?_); refine goesL_ (some 12) rfl rfl Try.func35 (by kernel_rfl) rfl #[.agg #[.int .i64 a0_0, .int .i64 a0_1, .slice A0_2 l0_2.length c0_2]] rfl mapx ?_; (with_reducible refine (raster_Check.calls a0_0 a0_1 _ _ l0_2 t216 _ ?side1 ?side2 A3.out).mono ?_); (case side1 => repeat (first | exact (Kd.C_below HR0_2.out HB.out) | (with_reducible refine Kd.C_alloc ?_ _) | (with_reducible refine Kd.C_drewN ?_ _) | (with_reducible refine Kd.C_drew ?_))); (case side2 => exact HC0_2.out); rintro e w61 ⟨rfl, hb⟩; refine ⟨_, rfl, ?_⟩; have n0_ := Aside0.mk (blk_below (bkx BK213) hb); have n1_ := Aside0.mk (blk_below (bkx BK214) hb); have n2_ := Aside0.mk (blk_below (bkx BK215) hb); have n3_ := Aside0.mk (below_step (hb3 HB GE213 GE214 GE215) hb); clear BK213; clear BK214; clear BK215; clear HB; have BK213 := n0_; have BK214 := n1_; have BK215 := n2_; have HB := n3_; clear n0_ n1_ n2_ n3_; (try clear hb); (try clear hb2); (try clear hk); (try clear hi); have hnb62 := NB214_215.out; have hnc62 := NB215_214.out; have hcz63_0 : w61.cell? ⟨gb214, 0, none⟩ = some (.int .i64 a1_0) := (blk_cell BK214.out 0).trans rfl; have hcz63_1 : w61.cell? ⟨gb214, 1, none⟩ = some (.int .i64 a1_1) := (blk_cell BK214.out 1).trans rfl; have hcz63_2 : w61.cell? ⟨gb214, 2, none⟩ = some (.int .i64 a1_2) := (blk_cell BK214.out 2).trans rfl; have hcz63_3 : w61.cell? ⟨gb214, 3, none⟩ = some (.int .u32 a1_3) := (blk_cell BK214.out 3).trans rfl; have hfz63_0 := blk_frozen BK214.out 0; have hfz63_1 := blk_frozen BK214.out 1; have hfz63_2 := blk_frozen BK214.out 2; have hfz63_3 := blk_frozen BK214.out 3; have hcz64_0 : w61.cell? ⟨gb213, 0, none⟩ = some (.int .i64 a0_0) := (blk_cell BK213.out 0).trans rfl; have hcz64_1 : w61.cell? ⟨gb213, 1, none⟩ = some (.int .i64 a0_1) := (blk_cell BK213.out 1).trans rfl; have hcz64_2 : w61.cell? ⟨gb213, 2, none⟩ = some (.slice A0_2 l0_2.length c0_2) := (blk_cell BK213.out 2).trans rfl; have hfz64_0 := blk_frozen BK213.out 0; have hfz64_1 := blk_frozen BK213.out 1; have hfz64_2 := blk_frozen BK213.out 2) | ((with_reducible refine gate_callee (f := 17) rfl ?_); refine goesL_ (some 41) rfl rfl Try.func17 (by kernel_rfl) rfl #[.agg #[.int .i64 a0_0, .int .i64 a0_1, .slice A0_2 l0_2.length c0_2]] rfl mapx ?_; (with_reducible refine (raster_Gray.calls k a0_0 a0_1 _ _ l0_2 t217 t218 t219 t222 _ ?side1 ?side2 A51.out).mono ?_); (case side1 => repeat (first | exact (Kd.C_below HR0_2.out HB.out) | (with_reducible refine Kd.C_alloc ?_ _) | (with_reducible refine Kd.C_drewN ?_ _) | (with_reducible refine Kd.C_drew ?_))); (case side2 => exact HC0_2.out); rintro e w65 ⟨v220, rfl, ho0, hb⟩; refine ⟨_, rfl, ?_⟩; have n0_ := Aside0.mk (Kd.R_lower ho0 (below_size (hb3 HB GE213 GE214 GE215))); have n1_ := Aside0.mk (blk_below (bkx BK213) hb); have n2_ := Aside0.mk (blk_below (bkx BK214) hb); have n3_ := Aside0.mk (blk_below (bkx BK215) hb); have n4_ := Aside0.mk (below_step (hb3 HB GE213 GE214 GE215) hb); clear BK213; clear BK214; clear BK215; clear HB; have HO221 := n0_; have BK213 := n1_; have BK214 := n2_; have BK215 := n3_; have HB := n4_; clear n0_ n1_ n2_ n3_ n4_; (try clear hb); (try clear hb2); (try clear hk); (try clear hi); (try clear ho0)) | ((with_reducible refine gate_dst (N := 6) rfl ?_); (try (refine gate_guard (by rfl) ?_; dsimp only)); refine box_event ?hg (N := 6) ?hd (cs := #[.int .i64 0, .int .i64 0, .slice none 0 0]) (t := 24) ?hr ?_; (case hd => rfl); (case hg => rfl); (case hr => first | (go_simp; done) | (go_simp; rfl)); intro gb223 hg w66 hbox hb; have n0_ := Aside0.mk (Kd.R_below (rkx HO221) hb); have n1_ := Aside0.mk (blk_below (bkx BK213) hb); have n2_ := Aside0.mk (blk_below (bkx BK214) hb); have n3_ := Aside0.mk (blk_below (bkx BK215) hb); have n4_ := Aside0.mk (below_step (hb3 HB GE213 GE214 GE215) hb); have n5_ := Aside0.mk (hbox); have n6_ := Aside0.mk ((by rw [hg]; exact (below_size (hb3 HB GE213 GE214 GE215)) : w.heap.size ≤ gb223)); have n7_ := Aside0.mk ((by rw [hg]; exact (below_size (hb3 HB GE213 GE214 GE215)) : w.heap.size ≤ gb223)); have n8_ := Aside0.mk (nel hg BK213 : gb213 ≠ gb223); have n9_ := Aside0.mk (neg hg BK213 : gb223 ≠ gb213); have n10_ := Aside0.mk (nel hg BK214 : gb214 ≠ gb223); have n11_ := Aside0.mk (neg hg BK214 : gb223 ≠ gb214); have n12_ := Aside0.mk (nel hg BK215 : gb215 ≠ gb223); have n13_ := Aside0.mk (neg hg BK215 : gb223 ≠ gb215); clear HO221; clear BK213; clear BK214; clear BK215; clear HB; have HO221 := n0_; have BK213 := n1_; have BK214 := n2_; have BK215 := n3_; have HB := n4_; have BK223 := n5_; have GW223 := n6_; have GE223 := n7_; have NB213_223 := n8_; have NB223_213 := n9_; have NB214_223 := n10_; have NB223_214 := n11_; have NB215_223 := n12_; have NB223_215 := n13_; clear n0_ n1_ n2_ n3_ n4_ n5_ n6_ n7_ n8_ n9_ n10_ n11_ n12_ n13_; clear hb hbox hg; have hnb67 := NB223_213.out; have hnc67 := NB213_223.out; have hnb68 := NB223_214.out; have hnc68 := NB214_223.out; have hnb69 := NB223_215.out; have hnc69 := NB215_223.out; have hcz70_0 : w66.cell? ⟨gb223, 0, none⟩ = some (.int .i64 0) := (blk_cell BK223.out 0).trans rfl; have hcz70_1 : w66.cell? ⟨gb223, 1, none⟩ = some (.int .i64 0) := (blk_cell BK223.out 1).trans rfl; have hcz70_2 : w66.cell? ⟨gb223, 2, none⟩ = some (.slice none 0 0) := (blk_cell BK223.out 2).trans rfl; have hfz70_0 := blk_frozen BK223.out 0; have hfz70_1 := blk_frozen BK223.out 1; have hfz70_2 := blk_frozen BK223.out 2; obtain ⟨Ao71, co71, eo71⟩ := Kd.R_slice HO221.out; subst eo71; have hcz72_0 : w66.cell? ⟨gb214, 0, none⟩ = some (.int .i64 a1_0) := (blk_cell BK214.out 0).trans rfl; have hcz72_1 : w66.cell? ⟨gb214, 1, none⟩ = some (.int .i64 a1_1) := (blk_cell BK214.out 1).trans rfl; have hcz72_2 : w66.cell? ⟨gb214, 2, none⟩ = some (.int .i64 a1_2) := (blk_cell BK214.out 2).trans rfl; have hcz72_3 : w66.cell? ⟨gb214, 3, none⟩ = some (.int .u32 a1_3) := (blk_cell BK214.out 3).trans rfl; have hfz72_0 := blk_frozen BK214.out 0; have hfz72_1 := blk_frozen BK214.out 1; have hfz72_2 := blk_frozen BK214.out 2; have hfz72_3 := blk_frozen BK214.out 3) | ((with_reducible refine gate_callee (f := 36) rfl ?_); have B214 := BK214; have B215 := BK215; have B223 := BK223; have G223 := GE223; have G215 := GE215; have N214_223 := NB214_223; have N223_214 := NB223_214; have N215_223 := NB215_223; have N223_215 := NB223_215; have N214_215 := NB214_215; have N215_214 := NB215_214; have HO : Aside0 (Kd.R (Kd.int .u8) 5 w66 w.heap.size (fun k_ => some k_ = (Value.slice Ao71 t219.length co71).ownBlock) (.slice Ao71 t219.length co71) t219) := ⟨Kd.R_flat printing_Print.u8_flat HO221.out (fun k hk _ => hk.symm)⟩; clear BK213 BK214 BK215 BK223 HO221; obtain ⟨W1, hW1⟩ : ∃ W_, (((w66).setCell ⟨gb223, 0, none⟩ (.int .i64 t217)).setCell ⟨gb223, 1, none⟩ (.int .i64 t218)).setCell ⟨gb223, 2, none⟩ (.slice Ao71 t219.length co71) = W_ := ⟨_, rfl⟩; have nk_ : Aside0 (W1.heap[gb223]? = some (.cells #[.int .i64 t217, .int .i64 t218, .slice Ao71 t219.length co71] 24 (0, 0))) := ⟨by rw [← hW1]; exact blk_put (blk_put (blk_put (B223.out) 0 _ rfl) 1 _ rfl) 2 _ rfl⟩; have n214_ : Aside0 (W1.heap[gb214]? = some (.cells #[.int .i64 a1_0, .int .i64 a1_1, .int .i64 a1_2, .int .u32 a1_3] 38 (0, 0))) := ⟨by rw [← hW1]; exact blk_far (p := ⟨gb223, 2, none⟩) (blk_far (p := ⟨gb223, 1, none⟩) (blk_far (p := ⟨gb223, 0, none⟩) (B214.out) N214_223.out _) N214_223.out _) N214_223.out _⟩; have n215_ : Aside0 (W1.heap[gb215]? = some (.cells #[.int .i64 0, .int .i64 0, .slice none 0 0] 24 (0, 0))) := ⟨by rw [← hW1]; exact blk_far (p := ⟨gb223, 2, none⟩) (blk_far (p := ⟨gb223, 1, none⟩) (blk_far (p := ⟨gb223, 0, none⟩) (B215.out) N215_223.out _) N215_223.out _) N215_223.out _⟩; have nb_ : Aside0 (Below w.heap.size w W1) := ⟨by rw [← hW1]; exact below_set (below_set (below_set (HB.out) G223.out) G223.out) G223.out⟩; have hne_ : ∀ k, some k = (Value.slice Ao71 t219.length co71).ownBlock → k ≠ gb223 := fun k hk => (by obtain ⟨cs, hcs⟩ := Kd.R_typed HO.out k hk.symm; exact blk_ne hcs B223.out (by decide)); have nr_ : Aside0 (Kd.R (Kd.int .u8) 5 W1 w.heap.size (fun k_ => some k_ = (Value.slice Ao71 t219.length co71).ownBlock) (.slice Ao71 t219.length co71) t219) := ⟨by rw [← hW1]; exact Kd.R_step (Kd.R_step (Kd.R_step (HO.out) (fun k hk hlt => Below.heap_setCell _ ⟨gb223, 0, none⟩ _ k (hne_ k hk))) (fun k hk hlt => Below.heap_setCell _ ⟨gb223, 1, none⟩ _ k (hne_ k hk))) (fun k hk hlt => Below.heap_setCell _ ⟨gb223, 2, none⟩ _ k (hne_ k hk))⟩; rw [hW1]; clear hW1 HB B214 B215 B223 HO hne_; have HB := nb_; have B223 := nk_; have B214 := n214_; have B215 := n215_; have HO := nr_; clear nb_ nk_ n214_ n215_ nr_; refine goesL_ (some 45) rfl rfl Try.func36 (by kernel_rfl) rfl #[.agg #[.int .i64 a1_0, .int .i64 a1_1, .int .i64 a1_2, .int .u32 a1_3]] rfl mapx ?_; refine (printing_Print.deg_calls a1_0 a1_1 a1_2 a1_3 _).mono ?_; rintro e W2 ⟨gS, gD, rfl, hS1, hD1, hS, hD, hb⟩; refine ⟨_, rfl, ?_⟩; have GS := Aside0.mk (by have := HB.out.size; omega : w.heap.size ≤ gS); have N214_S := Aside0.mk (by have := blk_lt B214.out; omega : gb214 ≠ gS); have NS_214 := Aside0.mk (N214_S.out).symm; have N215_S := Aside0.mk (by have := blk_lt B215.out; omega : gb215 ≠ gS); have NS_215 := Aside0.mk (N215_S.out).symm; have N223_S := Aside0.mk (by have := blk_lt B223.out; omega : gb223 ≠ gS); have NS_223 := Aside0.mk (N223_S.out).symm; have GD := Aside0.mk (by have := HB.out.size; omega : w.heap.size ≤ gD); have N214_D := Aside0.mk (by have := blk_lt B214.out; omega : gb214 ≠ gD); have ND_214 := Aside0.mk (N214_D.out).symm; have N215_D := Aside0.mk (by have := blk_lt B215.out; omega : gb215 ≠ gD); have ND_215 := Aside0.mk (N215_D.out).symm; have N223_D := Aside0.mk (by have := blk_lt B223.out; omega : gb223 ≠ gD); have ND_223 := Aside0.mk (N223_D.out).symm; have NS_D := Aside0.mk (blk_ne hS hD (by decide)); have ND_S := Aside0.mk (NS_D.out).symm; have n0_ := Aside0.mk (blk_below B214.out hb); have n1_ := Aside0.mk (blk_below B215.out hb); have n2_ := Aside0.mk (blk_below B223.out hb); have n3_ := Aside0.mk (Kd.R_below HO.out hb); have n4_ := Aside0.mk (below_step HB.out hb); clear B214 B215 B223 HO HB; have B214 := n0_; have B215 := n1_; have B223 := n2_; have HO := n3_; have HB := n4_; clear n0_ n1_ n2_ n3_ n4_; clear hb; have BS := Aside0.mk hS; have BD := Aside0.mk hD; clear hS hD hS1 hD1))
      have hu69 := Try.underlying69
      have hu65 := Try.underlying65
      refine wp_loop_rounds 4 ?_
      have hcS0 : W2.cell? ⟨gS, 0, none⟩ = some (.func (.func 53) #[] #[.pointer (some ⟨gD, 0, none⟩)]) := (blk_cell BS.out 0).trans rfl
      have hcS1 : W2.cell? ⟨gS, 1, none⟩ = some (.func (.func 55) #[] #[.pointer (some ⟨gD, 0, none⟩)]) := (blk_cell BS.out 1).trans rfl
      have hcS2 : W2.cell? ⟨gS, 2, none⟩ = some (.func (.func 56) #[] #[.pointer (some ⟨gD, 0, none⟩)]) := (blk_cell BS.out 2).trans rfl
      have hfS0 := blk_frozen BS.out 0
      have hfS1 := blk_frozen BS.out 1
      have hfS2 := blk_frozen BS.out 2
      have hc2230 : W2.cell? ⟨gb223, 0, none⟩ = some (.int .i64 t217) := (blk_cell B223.out 0).trans rfl
      have hc2231 : W2.cell? ⟨gb223, 1, none⟩ = some (.int .i64 t218) := (blk_cell B223.out 1).trans rfl
      have hc2232 : W2.cell? ⟨gb223, 2, none⟩ = some (.slice Ao71 t219.length co71) := (blk_cell B223.out 2).trans rfl
      have hf2230 := blk_frozen B223.out 0
      have hf2231 := blk_frozen B223.out 1
      have hf2232 := blk_frozen B223.out 2
      rw [rounds_succ]
      go_wp2_with (first | ((with_reducible refine gate_dst (N := 9) rfl ?_); refine box_event ?hg (N := 9) ?hd (cs := #[.nilFunc]) (t := 69) ?hr ?_; (case hd => rfl); (case hg => rfl); (case hr => first | (go_simp; done) | (go_simp; rfl)); intro gP0 hg W3 hbox hb; have GP0 := Aside0.mk ((by rw [hg]; exact HB.out.size : w.heap.size ≤ gP0)); have N214_P0 := Aside0.mk (by rw [hg]; have := blk_lt B214.out; omega : gb214 ≠ gP0); have NP0_214 := Aside0.mk (N214_P0.out).symm; have N215_P0 := Aside0.mk (by rw [hg]; have := blk_lt B215.out; omega : gb215 ≠ gP0); have NP0_215 := Aside0.mk (N215_P0.out).symm; have N223_P0 := Aside0.mk (by rw [hg]; have := blk_lt B223.out; omega : gb223 ≠ gP0); have NP0_223 := Aside0.mk (N223_P0.out).symm; have NS_P0 := Aside0.mk (by rw [hg]; have := blk_lt BS.out; omega : gS ≠ gP0); have NP0_S := Aside0.mk (NS_P0.out).symm; have ND_P0 := Aside0.mk (by rw [hg]; have := blk_lt BD.out; omega : gD ≠ gP0); have NP0_D := Aside0.mk (ND_P0.out).symm; have n0_ := Aside0.mk (blk_below B214.out hb); have n1_ := Aside0.mk (blk_below B215.out hb); have n2_ := Aside0.mk (blk_below B223.out hb); have n3_ := Aside0.mk (blk_below BS.out hb); have n4_ := Aside0.mk (blk_below BD.out hb); have n5_ := Aside0.mk (Kd.R_below HO.out hb); have n6_ := Aside0.mk (below_step HB.out hb); clear B214 B215 B223 BS BD HO HB; have B214 := n0_; have B215 := n1_; have B223 := n2_; have BS := n3_; have BD := n4_; have HO := n5_; have HB := n6_; clear n0_ n1_ n2_ n3_ n4_ n5_ n6_; clear hb; have BP0 := Aside0.mk hbox; clear hbox hg; have hcP00 : W3.cell? ⟨gP0, 0, none⟩ = some (.nilFunc) := (blk_cell BP0.out 0).trans rfl; have hfP00 := blk_frozen BP0.out 0; have hc2230 : W3.cell? ⟨gb223, 0, none⟩ = some (.int .i64 t217) := (blk_cell B223.out 0).trans rfl; have hc2231 : W3.cell? ⟨gb223, 1, none⟩ = some (.int .i64 t218) := (blk_cell B223.out 1).trans rfl; have hc2232 : W3.cell? ⟨gb223, 2, none⟩ = some (.slice Ao71 t219.length co71) := (blk_cell B223.out 2).trans rfl; have hf2230 := blk_frozen B223.out 0; have hf2231 := blk_frozen B223.out 1; have hf2232 := blk_frozen B223.out 2; have hcS0 : W3.cell? ⟨gS, 0, none⟩ = some (.func (.func 53) #[] #[.pointer (some ⟨gD, 0, none⟩)]) := (blk_cell BS.out 0).trans rfl; have hcS1 : W3.cell? ⟨gS, 1, none⟩ = some (.func (.func 55) #[] #[.pointer (some ⟨gD, 0, none⟩)]) := (blk_cell BS.out 1).trans rfl; have hcS2 : W3.cell? ⟨gS, 2, none⟩ = some (.func (.func 56) #[] #[.pointer (some ⟨gD, 0, none⟩)]) := (blk_cell BS.out 2).trans rfl; have hfS0 := blk_frozen BS.out 0; have hfS1 := blk_frozen BS.out 1; have hfS2 := blk_frozen BS.out 2; have hnP0_223 := NP0_223.out; have hn223_P0 := N223_P0.out; have hnP0_S := NP0_S.out; have hnS_P0 := NS_P0.out) | (go_at_call 53; obtain ⟨W4, hW4⟩ : ∃ W_, (W3).setCell ⟨gP0, 0, none⟩ (.func (.func 53) #[] #[.pointer (some ⟨gD, 0, none⟩)]) = W_ := ⟨_, rfl⟩; have nk_ : Aside0 (W4.heap[gP0]? = some (.cells #[.func (.func 53) #[] #[.pointer (some ⟨gD, 0, none⟩)]] 69 (0, 0))) := ⟨by rw [← hW4]; exact blk_put (BP0.out) 0 _ rfl⟩; have n214_ : Aside0 (W4.heap[gb214]? = some (.cells #[.int .i64 a1_0, .int .i64 a1_1, .int .i64 a1_2, .int .u32 a1_3] 38 (0, 0))) := ⟨by rw [← hW4]; exact blk_far (p := ⟨gP0, 0, none⟩) (B214.out) N214_P0.out _⟩; have n215_ : Aside0 (W4.heap[gb215]? = some (.cells #[.int .i64 0, .int .i64 0, .slice none 0 0] 24 (0, 0))) := ⟨by rw [← hW4]; exact blk_far (p := ⟨gP0, 0, none⟩) (B215.out) N215_P0.out _⟩; have n223_ : Aside0 (W4.heap[gb223]? = some (.cells #[.int .i64 t217, .int .i64 t218, .slice Ao71 t219.length co71] 24 (0, 0))) := ⟨by rw [← hW4]; exact blk_far (p := ⟨gP0, 0, none⟩) (B223.out) N223_P0.out _⟩; have nS_ : Aside0 (W4.heap[gS]? = some (.cells #[.func (.func 53) #[] #[.pointer (some ⟨gD, 0, none⟩)], .func (.func 55) #[] #[.pointer (some ⟨gD, 0, none⟩)], .func (.func 56) #[] #[.pointer (some ⟨gD, 0, none⟩)]] 69 (0, 0))) := ⟨by rw [← hW4]; exact blk_far (p := ⟨gP0, 0, none⟩) (BS.out) NS_P0.out _⟩; have nD_ : Aside0 (W4.heap[gD]? = some (.cells #[.int .i64 a1_0, .int .i64 a1_1, .int .i64 a1_2, .int .u32 a1_3] 38 (0, 0))) := ⟨by rw [← hW4]; exact blk_far (p := ⟨gP0, 0, none⟩) (BD.out) ND_P0.out _⟩; have nb_ : Aside0 (Below w.heap.size w W4) := ⟨by rw [← hW4]; exact below_set (HB.out) GP0.out⟩; have hne_ : ∀ k, some k = (Value.slice Ao71 t219.length co71).ownBlock → k ≠ gP0 := fun k hk => (by obtain ⟨cs, hcs⟩ := Kd.R_typed HO.out k hk.symm; exact blk_ne hcs BP0.out (by decide)); have nr_ : Aside0 (Kd.R (Kd.int .u8) 5 W4 w.heap.size (fun k_ => some k_ = (Value.slice Ao71 t219.length co71).ownBlock) (.slice Ao71 t219.length co71) t219) := ⟨by rw [← hW4]; exact Kd.R_step (HO.out) (fun k hk hlt => Below.heap_setCell _ ⟨gP0, 0, none⟩ _ k (hne_ k hk))⟩; rw [hW4]; clear hW4 HB B214 B215 B223 BS BD BP0 HO hne_; have HB := nb_; have BP0 := nk_; have B214 := n214_; have B215 := n215_; have B223 := n223_; have BS := nS_; have BD := nD_; have HO := nr_; clear nb_ nk_ n214_ n215_ n223_ nS_ nD_ nr_; refine (printing_degradations_1.calls k t217 t218 _ _ t219 a1_0 a1_1 a1_2 a1_3 t224 t225 t226 _ gD BD.out (Kd.R_reads' HO.out).2.2 (Kd.R_reads' HO.out).2.1 A52.out).mono ?_; rintro e W5 ⟨vi0, rfl, ho, hb⟩; have hsz_ := HB.out.size; have n0_ := Aside0.mk (blk_below B214.out hb); have n1_ := Aside0.mk (blk_below B215.out hb); have n2_ := Aside0.mk (blk_below B223.out hb); have n3_ := Aside0.mk (blk_below BS.out hb); have n4_ := Aside0.mk (blk_below BD.out hb); have n5_ := Aside0.mk (blk_below BP0.out hb); have n6_ := Aside0.mk (below_step HB.out hb); clear B214 B215 B223 BS BD BP0 HB HO; have B214 := n0_; have B215 := n1_; have B223 := n2_; have BS := n3_; have BD := n4_; have BP0 := n5_; have HB := n6_; clear n0_ n1_ n2_ n3_ n4_ n5_ n6_; clear hb; obtain ⟨Ai0, ci0, ei⟩ := Kd.R_slice ho; subst ei; have HO : Aside0 (Kd.R (Kd.int .u8) 5 W5 w.heap.size (fun k_ => some k_ = (Value.slice Ai0 t226.length ci0).ownBlock) (.slice Ai0 t226.length ci0) t226) := ⟨Kd.R_lower (Kd.R_flat printing_Print.u8_flat ho (fun k hk _ => hk.symm)) (by assumption)⟩; clear ho hsz_; have hc2230 : W5.cell? ⟨gb223, 0, none⟩ = some (.int .i64 t217) := (blk_cell B223.out 0).trans rfl; have hc2231 : W5.cell? ⟨gb223, 1, none⟩ = some (.int .i64 t218) := (blk_cell B223.out 1).trans rfl; have hc2232 : W5.cell? ⟨gb223, 2, none⟩ = some (.slice Ao71 t219.length co71) := (blk_cell B223.out 2).trans rfl; have hf2230 := blk_frozen B223.out 0; have hf2231 := blk_frozen B223.out 1; have hf2232 := blk_frozen B223.out 2))
      obtain ⟨W6, hW6⟩ : ∃ W_, (((W5).setCell ⟨gb223, 0, none⟩ (.int .i64 t224)).setCell ⟨gb223, 1, none⟩ (.int .i64 t225)).setCell ⟨gb223, 2, none⟩ (.slice Ai0 t226.length ci0) = W_ := ⟨_, rfl⟩
      have nk_ : Aside0 (W6.heap[gb223]? = some (.cells #[.int .i64 t224, .int .i64 t225, .slice Ai0 t226.length ci0] 24 (0, 0))) := ⟨by rw [← hW6]; exact blk_put (blk_put (blk_put (B223.out) 0 _ rfl) 1 _ rfl) 2 _ rfl⟩
      have n214_ : Aside0 (W6.heap[gb214]? = some (.cells #[.int .i64 a1_0, .int .i64 a1_1, .int .i64 a1_2, .int .u32 a1_3] 38 (0, 0))) := ⟨by rw [← hW6]; exact blk_far (p := ⟨gb223, 2, none⟩) (blk_far (p := ⟨gb223, 1, none⟩) (blk_far (p := ⟨gb223, 0, none⟩) (B214.out) N214_223.out _) N214_223.out _) N214_223.out _⟩
      have n215_ : Aside0 (W6.heap[gb215]? = some (.cells #[.int .i64 0, .int .i64 0, .slice none 0 0] 24 (0, 0))) := ⟨by rw [← hW6]; exact blk_far (p := ⟨gb223, 2, none⟩) (blk_far (p := ⟨gb223, 1, none⟩) (blk_far (p := ⟨gb223, 0, none⟩) (B215.out) N215_223.out _) N215_223.out _) N215_223.out _⟩
      have nS_ : Aside0 (W6.heap[gS]? = some (.cells #[.func (.func 53) #[] #[.pointer (some ⟨gD, 0, none⟩)], .func (.func 55) #[] #[.pointer (some ⟨gD, 0, none⟩)], .func (.func 56) #[] #[.pointer (some ⟨gD, 0, none⟩)]] 69 (0, 0))) := ⟨by rw [← hW6]; exact blk_far (p := ⟨gb223, 2, none⟩) (blk_far (p := ⟨gb223, 1, none⟩) (blk_far (p := ⟨gb223, 0, none⟩) (BS.out) NS_223.out _) NS_223.out _) NS_223.out _⟩
      have nD_ : Aside0 (W6.heap[gD]? = some (.cells #[.int .i64 a1_0, .int .i64 a1_1, .int .i64 a1_2, .int .u32 a1_3] 38 (0, 0))) := ⟨by rw [← hW6]; exact blk_far (p := ⟨gb223, 2, none⟩) (blk_far (p := ⟨gb223, 1, none⟩) (blk_far (p := ⟨gb223, 0, none⟩) (BD.out) ND_223.out _) ND_223.out _) ND_223.out _⟩
      have nP0_ : Aside0 (W6.heap[gP0]? = some (.cells #[.func (.func 53) #[] #[.pointer (some ⟨gD, 0, none⟩)]] 69 (0, 0))) := ⟨by rw [← hW6]; exact blk_far (p := ⟨gb223, 2, none⟩) (blk_far (p := ⟨gb223, 1, none⟩) (blk_far (p := ⟨gb223, 0, none⟩) (BP0.out) NP0_223.out _) NP0_223.out _) NP0_223.out _⟩
      have nb_ : Aside0 (Below w.heap.size w W6) := ⟨by rw [← hW6]; exact below_set (below_set (below_set (HB.out) G223.out) G223.out) G223.out⟩
      have hne_ : ∀ k, some k = (Value.slice Ai0 t226.length ci0).ownBlock → k ≠ gb223 := fun k hk => (by obtain ⟨cs, hcs⟩ := Kd.R_typed HO.out k hk.symm; exact blk_ne hcs B223.out (by decide))
      have nr_ : Aside0 (Kd.R (Kd.int .u8) 5 W6 w.heap.size (fun k_ => some k_ = (Value.slice Ai0 t226.length ci0).ownBlock) (.slice Ai0 t226.length ci0) t226) := ⟨by rw [← hW6]; exact Kd.R_step (Kd.R_step (Kd.R_step (HO.out) (fun k hk hlt => Below.heap_setCell _ ⟨gb223, 0, none⟩ _ k (hne_ k hk))) (fun k hk hlt => Below.heap_setCell _ ⟨gb223, 1, none⟩ _ k (hne_ k hk))) (fun k hk hlt => Below.heap_setCell _ ⟨gb223, 2, none⟩ _ k (hne_ k hk))⟩
      rw [hW6]
      clear hW6 HB B214 B215 B223 BS BD BP0 HO hne_
      have HB := nb_; have B223 := nk_; have B214 := n214_; have B215 := n215_; have BS := nS_; have BD := nD_; have BP0 := nP0_; have HO := nr_
      clear nb_ nk_ n214_ n215_ nS_ nD_ nP0_ nr_
      have hcS0 : W6.cell? ⟨gS, 0, none⟩ = some (.func (.func 53) #[] #[.pointer (some ⟨gD, 0, none⟩)]) := (blk_cell BS.out 0).trans rfl
      have hcS1 : W6.cell? ⟨gS, 1, none⟩ = some (.func (.func 55) #[] #[.pointer (some ⟨gD, 0, none⟩)]) := (blk_cell BS.out 1).trans rfl
      have hcS2 : W6.cell? ⟨gS, 2, none⟩ = some (.func (.func 56) #[] #[.pointer (some ⟨gD, 0, none⟩)]) := (blk_cell BS.out 2).trans rfl
      have hfS0 := blk_frozen BS.out 0
      have hfS1 := blk_frozen BS.out 1
      have hfS2 := blk_frozen BS.out 2
      have hc2230 : W6.cell? ⟨gb223, 0, none⟩ = some (.int .i64 t224) := (blk_cell B223.out 0).trans rfl
      have hc2231 : W6.cell? ⟨gb223, 1, none⟩ = some (.int .i64 t225) := (blk_cell B223.out 1).trans rfl
      have hc2232 : W6.cell? ⟨gb223, 2, none⟩ = some (.slice Ai0 t226.length ci0) := (blk_cell B223.out 2).trans rfl
      have hf2230 := blk_frozen B223.out 0
      have hf2231 := blk_frozen B223.out 1
      have hf2232 := blk_frozen B223.out 2
      rw [rounds_succ]
      go_wp2_with (first | ((with_reducible refine gate_dst (N := 9) rfl ?_); refine box_event ?hg (N := 9) ?hd (cs := #[.nilFunc]) (t := 69) ?hr ?_; (case hd => rfl); (case hg => rfl); (case hr => first | (go_simp; done) | (go_simp; rfl)); intro gP1 hg W7 hbox hb; have GP1 := Aside0.mk ((by rw [hg]; exact HB.out.size : w.heap.size ≤ gP1)); have N214_P1 := Aside0.mk (by rw [hg]; have := blk_lt B214.out; omega : gb214 ≠ gP1); have NP1_214 := Aside0.mk (N214_P1.out).symm; have N215_P1 := Aside0.mk (by rw [hg]; have := blk_lt B215.out; omega : gb215 ≠ gP1); have NP1_215 := Aside0.mk (N215_P1.out).symm; have N223_P1 := Aside0.mk (by rw [hg]; have := blk_lt B223.out; omega : gb223 ≠ gP1); have NP1_223 := Aside0.mk (N223_P1.out).symm; have NS_P1 := Aside0.mk (by rw [hg]; have := blk_lt BS.out; omega : gS ≠ gP1); have NP1_S := Aside0.mk (NS_P1.out).symm; have ND_P1 := Aside0.mk (by rw [hg]; have := blk_lt BD.out; omega : gD ≠ gP1); have NP1_D := Aside0.mk (ND_P1.out).symm; have NP0_P1 := Aside0.mk (by rw [hg]; have := blk_lt BP0.out; omega : gP0 ≠ gP1); have NP1_P0 := Aside0.mk (NP0_P1.out).symm; have n0_ := Aside0.mk (blk_below B214.out hb); have n1_ := Aside0.mk (blk_below B215.out hb); have n2_ := Aside0.mk (blk_below B223.out hb); have n3_ := Aside0.mk (blk_below BS.out hb); have n4_ := Aside0.mk (blk_below BD.out hb); have n5_ := Aside0.mk (blk_below BP0.out hb); have n6_ := Aside0.mk (Kd.R_below HO.out hb); have n7_ := Aside0.mk (below_step HB.out hb); clear B214 B215 B223 BS BD BP0 HO HB; have B214 := n0_; have B215 := n1_; have B223 := n2_; have BS := n3_; have BD := n4_; have BP0 := n5_; have HO := n6_; have HB := n7_; clear n0_ n1_ n2_ n3_ n4_ n5_ n6_ n7_; clear hb; have BP1 := Aside0.mk hbox; clear hbox hg; have hcP10 : W7.cell? ⟨gP1, 0, none⟩ = some (.nilFunc) := (blk_cell BP1.out 0).trans rfl; have hfP10 := blk_frozen BP1.out 0; have hc2230 : W7.cell? ⟨gb223, 0, none⟩ = some (.int .i64 t224) := (blk_cell B223.out 0).trans rfl; have hc2231 : W7.cell? ⟨gb223, 1, none⟩ = some (.int .i64 t225) := (blk_cell B223.out 1).trans rfl; have hc2232 : W7.cell? ⟨gb223, 2, none⟩ = some (.slice Ai0 t226.length ci0) := (blk_cell B223.out 2).trans rfl; have hf2230 := blk_frozen B223.out 0; have hf2231 := blk_frozen B223.out 1; have hf2232 := blk_frozen B223.out 2; have hcS0 : W7.cell? ⟨gS, 0, none⟩ = some (.func (.func 53) #[] #[.pointer (some ⟨gD, 0, none⟩)]) := (blk_cell BS.out 0).trans rfl; have hcS1 : W7.cell? ⟨gS, 1, none⟩ = some (.func (.func 55) #[] #[.pointer (some ⟨gD, 0, none⟩)]) := (blk_cell BS.out 1).trans rfl; have hcS2 : W7.cell? ⟨gS, 2, none⟩ = some (.func (.func 56) #[] #[.pointer (some ⟨gD, 0, none⟩)]) := (blk_cell BS.out 2).trans rfl; have hfS0 := blk_frozen BS.out 0; have hfS1 := blk_frozen BS.out 1; have hfS2 := blk_frozen BS.out 2; have hnP1_223 := NP1_223.out; have hn223_P1 := N223_P1.out; have hnP1_S := NP1_S.out; have hnS_P1 := NS_P1.out) | (go_at_call 55; obtain ⟨W8, hW8⟩ : ∃ W_, (W7).setCell ⟨gP1, 0, none⟩ (.func (.func 55) #[] #[.pointer (some ⟨gD, 0, none⟩)]) = W_ := ⟨_, rfl⟩; have nk_ : Aside0 (W8.heap[gP1]? = some (.cells #[.func (.func 55) #[] #[.pointer (some ⟨gD, 0, none⟩)]] 69 (0, 0))) := ⟨by rw [← hW8]; exact blk_put (BP1.out) 0 _ rfl⟩; have n214_ : Aside0 (W8.heap[gb214]? = some (.cells #[.int .i64 a1_0, .int .i64 a1_1, .int .i64 a1_2, .int .u32 a1_3] 38 (0, 0))) := ⟨by rw [← hW8]; exact blk_far (p := ⟨gP1, 0, none⟩) (B214.out) N214_P1.out _⟩; have n215_ : Aside0 (W8.heap[gb215]? = some (.cells #[.int .i64 0, .int .i64 0, .slice none 0 0] 24 (0, 0))) := ⟨by rw [← hW8]; exact blk_far (p := ⟨gP1, 0, none⟩) (B215.out) N215_P1.out _⟩; have n223_ : Aside0 (W8.heap[gb223]? = some (.cells #[.int .i64 t224, .int .i64 t225, .slice Ai0 t226.length ci0] 24 (0, 0))) := ⟨by rw [← hW8]; exact blk_far (p := ⟨gP1, 0, none⟩) (B223.out) N223_P1.out _⟩; have nS_ : Aside0 (W8.heap[gS]? = some (.cells #[.func (.func 53) #[] #[.pointer (some ⟨gD, 0, none⟩)], .func (.func 55) #[] #[.pointer (some ⟨gD, 0, none⟩)], .func (.func 56) #[] #[.pointer (some ⟨gD, 0, none⟩)]] 69 (0, 0))) := ⟨by rw [← hW8]; exact blk_far (p := ⟨gP1, 0, none⟩) (BS.out) NS_P1.out _⟩; have nD_ : Aside0 (W8.heap[gD]? = some (.cells #[.int .i64 a1_0, .int .i64 a1_1, .int .i64 a1_2, .int .u32 a1_3] 38 (0, 0))) := ⟨by rw [← hW8]; exact blk_far (p := ⟨gP1, 0, none⟩) (BD.out) ND_P1.out _⟩; have nP0_ : Aside0 (W8.heap[gP0]? = some (.cells #[.func (.func 53) #[] #[.pointer (some ⟨gD, 0, none⟩)]] 69 (0, 0))) := ⟨by rw [← hW8]; exact blk_far (p := ⟨gP1, 0, none⟩) (BP0.out) NP0_P1.out _⟩; have nb_ : Aside0 (Below w.heap.size w W8) := ⟨by rw [← hW8]; exact below_set (HB.out) GP1.out⟩; have hne_ : ∀ k, some k = (Value.slice Ai0 t226.length ci0).ownBlock → k ≠ gP1 := fun k hk => (by obtain ⟨cs, hcs⟩ := Kd.R_typed HO.out k hk.symm; exact blk_ne hcs BP1.out (by decide)); have nr_ : Aside0 (Kd.R (Kd.int .u8) 5 W8 w.heap.size (fun k_ => some k_ = (Value.slice Ai0 t226.length ci0).ownBlock) (.slice Ai0 t226.length ci0) t226) := ⟨by rw [← hW8]; exact Kd.R_step (HO.out) (fun k hk hlt => Below.heap_setCell _ ⟨gP1, 0, none⟩ _ k (hne_ k hk))⟩; rw [hW8]; clear hW8 HB B214 B215 B223 BS BD BP0 BP1 HO hne_; have HB := nb_; have BP1 := nk_; have B214 := n214_; have B215 := n215_; have B223 := n223_; have BS := nS_; have BD := nD_; have BP0 := nP0_; have HO := nr_; clear nb_ nk_ n214_ n215_ n223_ nS_ nD_ nP0_ nr_; refine (printing_degradations_2.calls k t224 t225 _ _ t226 a1_0 a1_1 a1_2 a1_3 t229 t230 t231 _ gD BD.out (Kd.R_reads' HO.out).2.2 (Kd.R_reads' HO.out).2.1 A53.out).mono ?_; rintro e W9 ⟨vi1, rfl, ho, hb⟩; have hsz_ := HB.out.size; have n0_ := Aside0.mk (blk_below B214.out hb); have n1_ := Aside0.mk (blk_below B215.out hb); have n2_ := Aside0.mk (blk_below B223.out hb); have n3_ := Aside0.mk (blk_below BS.out hb); have n4_ := Aside0.mk (blk_below BD.out hb); have n5_ := Aside0.mk (blk_below BP0.out hb); have n6_ := Aside0.mk (blk_below BP1.out hb); have n7_ := Aside0.mk (below_step HB.out hb); clear B214 B215 B223 BS BD BP0 BP1 HB HO; have B214 := n0_; have B215 := n1_; have B223 := n2_; have BS := n3_; have BD := n4_; have BP0 := n5_; have BP1 := n6_; have HB := n7_; clear n0_ n1_ n2_ n3_ n4_ n5_ n6_ n7_; clear hb; obtain ⟨Ai1, ci1, ei⟩ := Kd.R_slice ho; subst ei; have HO : Aside0 (Kd.R (Kd.int .u8) 5 W9 w.heap.size (fun k_ => some k_ = (Value.slice Ai1 t231.length ci1).ownBlock) (.slice Ai1 t231.length ci1) t231) := ⟨Kd.R_lower (Kd.R_flat printing_Print.u8_flat ho (fun k hk _ => hk.symm)) (by assumption)⟩; clear ho hsz_; have hc2230 : W9.cell? ⟨gb223, 0, none⟩ = some (.int .i64 t224) := (blk_cell B223.out 0).trans rfl; have hc2231 : W9.cell? ⟨gb223, 1, none⟩ = some (.int .i64 t225) := (blk_cell B223.out 1).trans rfl; have hc2232 : W9.cell? ⟨gb223, 2, none⟩ = some (.slice Ai0 t226.length ci0) := (blk_cell B223.out 2).trans rfl; have hf2230 := blk_frozen B223.out 0; have hf2231 := blk_frozen B223.out 1; have hf2232 := blk_frozen B223.out 2))
      obtain ⟨W10, hW10⟩ : ∃ W_, (((W9).setCell ⟨gb223, 0, none⟩ (.int .i64 t229)).setCell ⟨gb223, 1, none⟩ (.int .i64 t230)).setCell ⟨gb223, 2, none⟩ (.slice Ai1 t231.length ci1) = W_ := ⟨_, rfl⟩
      have nk_ : Aside0 (W10.heap[gb223]? = some (.cells #[.int .i64 t229, .int .i64 t230, .slice Ai1 t231.length ci1] 24 (0, 0))) := ⟨by rw [← hW10]; exact blk_put (blk_put (blk_put (B223.out) 0 _ rfl) 1 _ rfl) 2 _ rfl⟩
      have n214_ : Aside0 (W10.heap[gb214]? = some (.cells #[.int .i64 a1_0, .int .i64 a1_1, .int .i64 a1_2, .int .u32 a1_3] 38 (0, 0))) := ⟨by rw [← hW10]; exact blk_far (p := ⟨gb223, 2, none⟩) (blk_far (p := ⟨gb223, 1, none⟩) (blk_far (p := ⟨gb223, 0, none⟩) (B214.out) N214_223.out _) N214_223.out _) N214_223.out _⟩
      have n215_ : Aside0 (W10.heap[gb215]? = some (.cells #[.int .i64 0, .int .i64 0, .slice none 0 0] 24 (0, 0))) := ⟨by rw [← hW10]; exact blk_far (p := ⟨gb223, 2, none⟩) (blk_far (p := ⟨gb223, 1, none⟩) (blk_far (p := ⟨gb223, 0, none⟩) (B215.out) N215_223.out _) N215_223.out _) N215_223.out _⟩
      have nS_ : Aside0 (W10.heap[gS]? = some (.cells #[.func (.func 53) #[] #[.pointer (some ⟨gD, 0, none⟩)], .func (.func 55) #[] #[.pointer (some ⟨gD, 0, none⟩)], .func (.func 56) #[] #[.pointer (some ⟨gD, 0, none⟩)]] 69 (0, 0))) := ⟨by rw [← hW10]; exact blk_far (p := ⟨gb223, 2, none⟩) (blk_far (p := ⟨gb223, 1, none⟩) (blk_far (p := ⟨gb223, 0, none⟩) (BS.out) NS_223.out _) NS_223.out _) NS_223.out _⟩
      have nD_ : Aside0 (W10.heap[gD]? = some (.cells #[.int .i64 a1_0, .int .i64 a1_1, .int .i64 a1_2, .int .u32 a1_3] 38 (0, 0))) := ⟨by rw [← hW10]; exact blk_far (p := ⟨gb223, 2, none⟩) (blk_far (p := ⟨gb223, 1, none⟩) (blk_far (p := ⟨gb223, 0, none⟩) (BD.out) ND_223.out _) ND_223.out _) ND_223.out _⟩
      have nP0_ : Aside0 (W10.heap[gP0]? = some (.cells #[.func (.func 53) #[] #[.pointer (some ⟨gD, 0, none⟩)]] 69 (0, 0))) := ⟨by rw [← hW10]; exact blk_far (p := ⟨gb223, 2, none⟩) (blk_far (p := ⟨gb223, 1, none⟩) (blk_far (p := ⟨gb223, 0, none⟩) (BP0.out) NP0_223.out _) NP0_223.out _) NP0_223.out _⟩
      have nP1_ : Aside0 (W10.heap[gP1]? = some (.cells #[.func (.func 55) #[] #[.pointer (some ⟨gD, 0, none⟩)]] 69 (0, 0))) := ⟨by rw [← hW10]; exact blk_far (p := ⟨gb223, 2, none⟩) (blk_far (p := ⟨gb223, 1, none⟩) (blk_far (p := ⟨gb223, 0, none⟩) (BP1.out) NP1_223.out _) NP1_223.out _) NP1_223.out _⟩
      have nb_ : Aside0 (Below w.heap.size w W10) := ⟨by rw [← hW10]; exact below_set (below_set (below_set (HB.out) G223.out) G223.out) G223.out⟩
      have hne_ : ∀ k, some k = (Value.slice Ai1 t231.length ci1).ownBlock → k ≠ gb223 := fun k hk => (by obtain ⟨cs, hcs⟩ := Kd.R_typed HO.out k hk.symm; exact blk_ne hcs B223.out (by decide))
      have nr_ : Aside0 (Kd.R (Kd.int .u8) 5 W10 w.heap.size (fun k_ => some k_ = (Value.slice Ai1 t231.length ci1).ownBlock) (.slice Ai1 t231.length ci1) t231) := ⟨by rw [← hW10]; exact Kd.R_step (Kd.R_step (Kd.R_step (HO.out) (fun k hk hlt => Below.heap_setCell _ ⟨gb223, 0, none⟩ _ k (hne_ k hk))) (fun k hk hlt => Below.heap_setCell _ ⟨gb223, 1, none⟩ _ k (hne_ k hk))) (fun k hk hlt => Below.heap_setCell _ ⟨gb223, 2, none⟩ _ k (hne_ k hk))⟩
      rw [hW10]
      clear hW10 HB B214 B215 B223 BS BD BP0 BP1 HO hne_
      have HB := nb_; have B223 := nk_; have B214 := n214_; have B215 := n215_; have BS := nS_; have BD := nD_; have BP0 := nP0_; have BP1 := nP1_; have HO := nr_
      clear nb_ nk_ n214_ n215_ nS_ nD_ nP0_ nP1_ nr_
      have hcS0 : W10.cell? ⟨gS, 0, none⟩ = some (.func (.func 53) #[] #[.pointer (some ⟨gD, 0, none⟩)]) := (blk_cell BS.out 0).trans rfl
      have hcS1 : W10.cell? ⟨gS, 1, none⟩ = some (.func (.func 55) #[] #[.pointer (some ⟨gD, 0, none⟩)]) := (blk_cell BS.out 1).trans rfl
      have hcS2 : W10.cell? ⟨gS, 2, none⟩ = some (.func (.func 56) #[] #[.pointer (some ⟨gD, 0, none⟩)]) := (blk_cell BS.out 2).trans rfl
      have hfS0 := blk_frozen BS.out 0
      have hfS1 := blk_frozen BS.out 1
      have hfS2 := blk_frozen BS.out 2
      have hc2230 : W10.cell? ⟨gb223, 0, none⟩ = some (.int .i64 t229) := (blk_cell B223.out 0).trans rfl
      have hc2231 : W10.cell? ⟨gb223, 1, none⟩ = some (.int .i64 t230) := (blk_cell B223.out 1).trans rfl
      have hc2232 : W10.cell? ⟨gb223, 2, none⟩ = some (.slice Ai1 t231.length ci1) := (blk_cell B223.out 2).trans rfl
      have hf2230 := blk_frozen B223.out 0
      have hf2231 := blk_frozen B223.out 1
      have hf2232 := blk_frozen B223.out 2
      rw [rounds_succ]
      go_wp2_with (first | ((with_reducible refine gate_dst (N := 9) rfl ?_); refine box_event ?hg (N := 9) ?hd (cs := #[.nilFunc]) (t := 69) ?hr ?_; (case hd => rfl); (case hg => rfl); (case hr => first | (go_simp; done) | (go_simp; rfl)); intro gP2 hg W11 hbox hb; have GP2 := Aside0.mk ((by rw [hg]; exact HB.out.size : w.heap.size ≤ gP2)); have N214_P2 := Aside0.mk (by rw [hg]; have := blk_lt B214.out; omega : gb214 ≠ gP2); have NP2_214 := Aside0.mk (N214_P2.out).symm; have N215_P2 := Aside0.mk (by rw [hg]; have := blk_lt B215.out; omega : gb215 ≠ gP2); have NP2_215 := Aside0.mk (N215_P2.out).symm; have N223_P2 := Aside0.mk (by rw [hg]; have := blk_lt B223.out; omega : gb223 ≠ gP2); have NP2_223 := Aside0.mk (N223_P2.out).symm; have NS_P2 := Aside0.mk (by rw [hg]; have := blk_lt BS.out; omega : gS ≠ gP2); have NP2_S := Aside0.mk (NS_P2.out).symm; have ND_P2 := Aside0.mk (by rw [hg]; have := blk_lt BD.out; omega : gD ≠ gP2); have NP2_D := Aside0.mk (ND_P2.out).symm; have NP0_P2 := Aside0.mk (by rw [hg]; have := blk_lt BP0.out; omega : gP0 ≠ gP2); have NP2_P0 := Aside0.mk (NP0_P2.out).symm; have NP1_P2 := Aside0.mk (by rw [hg]; have := blk_lt BP1.out; omega : gP1 ≠ gP2); have NP2_P1 := Aside0.mk (NP1_P2.out).symm; have n0_ := Aside0.mk (blk_below B214.out hb); have n1_ := Aside0.mk (blk_below B215.out hb); have n2_ := Aside0.mk (blk_below B223.out hb); have n3_ := Aside0.mk (blk_below BS.out hb); have n4_ := Aside0.mk (blk_below BD.out hb); have n5_ := Aside0.mk (blk_below BP0.out hb); have n6_ := Aside0.mk (blk_below BP1.out hb); have n7_ := Aside0.mk (Kd.R_below HO.out hb); have n8_ := Aside0.mk (below_step HB.out hb); clear B214 B215 B223 BS BD BP0 BP1 HO HB; have B214 := n0_; have B215 := n1_; have B223 := n2_; have BS := n3_; have BD := n4_; have BP0 := n5_; have BP1 := n6_; have HO := n7_; have HB := n8_; clear n0_ n1_ n2_ n3_ n4_ n5_ n6_ n7_ n8_; clear hb; have BP2 := Aside0.mk hbox; clear hbox hg; have hcP20 : W11.cell? ⟨gP2, 0, none⟩ = some (.nilFunc) := (blk_cell BP2.out 0).trans rfl; have hfP20 := blk_frozen BP2.out 0; have hc2230 : W11.cell? ⟨gb223, 0, none⟩ = some (.int .i64 t229) := (blk_cell B223.out 0).trans rfl; have hc2231 : W11.cell? ⟨gb223, 1, none⟩ = some (.int .i64 t230) := (blk_cell B223.out 1).trans rfl; have hc2232 : W11.cell? ⟨gb223, 2, none⟩ = some (.slice Ai1 t231.length ci1) := (blk_cell B223.out 2).trans rfl; have hf2230 := blk_frozen B223.out 0; have hf2231 := blk_frozen B223.out 1; have hf2232 := blk_frozen B223.out 2; have hcS0 : W11.cell? ⟨gS, 0, none⟩ = some (.func (.func 53) #[] #[.pointer (some ⟨gD, 0, none⟩)]) := (blk_cell BS.out 0).trans rfl; have hcS1 : W11.cell? ⟨gS, 1, none⟩ = some (.func (.func 55) #[] #[.pointer (some ⟨gD, 0, none⟩)]) := (blk_cell BS.out 1).trans rfl; have hcS2 : W11.cell? ⟨gS, 2, none⟩ = some (.func (.func 56) #[] #[.pointer (some ⟨gD, 0, none⟩)]) := (blk_cell BS.out 2).trans rfl; have hfS0 := blk_frozen BS.out 0; have hfS1 := blk_frozen BS.out 1; have hfS2 := blk_frozen BS.out 2; have hnP2_223 := NP2_223.out; have hn223_P2 := N223_P2.out; have hnP2_S := NP2_S.out; have hnS_P2 := NS_P2.out) | (go_at_call 56; obtain ⟨W12, hW12⟩ : ∃ W_, (W11).setCell ⟨gP2, 0, none⟩ (.func (.func 56) #[] #[.pointer (some ⟨gD, 0, none⟩)]) = W_ := ⟨_, rfl⟩; have nk_ : Aside0 (W12.heap[gP2]? = some (.cells #[.func (.func 56) #[] #[.pointer (some ⟨gD, 0, none⟩)]] 69 (0, 0))) := ⟨by rw [← hW12]; exact blk_put (BP2.out) 0 _ rfl⟩; have n214_ : Aside0 (W12.heap[gb214]? = some (.cells #[.int .i64 a1_0, .int .i64 a1_1, .int .i64 a1_2, .int .u32 a1_3] 38 (0, 0))) := ⟨by rw [← hW12]; exact blk_far (p := ⟨gP2, 0, none⟩) (B214.out) N214_P2.out _⟩; have n215_ : Aside0 (W12.heap[gb215]? = some (.cells #[.int .i64 0, .int .i64 0, .slice none 0 0] 24 (0, 0))) := ⟨by rw [← hW12]; exact blk_far (p := ⟨gP2, 0, none⟩) (B215.out) N215_P2.out _⟩; have n223_ : Aside0 (W12.heap[gb223]? = some (.cells #[.int .i64 t229, .int .i64 t230, .slice Ai1 t231.length ci1] 24 (0, 0))) := ⟨by rw [← hW12]; exact blk_far (p := ⟨gP2, 0, none⟩) (B223.out) N223_P2.out _⟩; have nS_ : Aside0 (W12.heap[gS]? = some (.cells #[.func (.func 53) #[] #[.pointer (some ⟨gD, 0, none⟩)], .func (.func 55) #[] #[.pointer (some ⟨gD, 0, none⟩)], .func (.func 56) #[] #[.pointer (some ⟨gD, 0, none⟩)]] 69 (0, 0))) := ⟨by rw [← hW12]; exact blk_far (p := ⟨gP2, 0, none⟩) (BS.out) NS_P2.out _⟩; have nD_ : Aside0 (W12.heap[gD]? = some (.cells #[.int .i64 a1_0, .int .i64 a1_1, .int .i64 a1_2, .int .u32 a1_3] 38 (0, 0))) := ⟨by rw [← hW12]; exact blk_far (p := ⟨gP2, 0, none⟩) (BD.out) ND_P2.out _⟩; have nP0_ : Aside0 (W12.heap[gP0]? = some (.cells #[.func (.func 53) #[] #[.pointer (some ⟨gD, 0, none⟩)]] 69 (0, 0))) := ⟨by rw [← hW12]; exact blk_far (p := ⟨gP2, 0, none⟩) (BP0.out) NP0_P2.out _⟩; have nP1_ : Aside0 (W12.heap[gP1]? = some (.cells #[.func (.func 55) #[] #[.pointer (some ⟨gD, 0, none⟩)]] 69 (0, 0))) := ⟨by rw [← hW12]; exact blk_far (p := ⟨gP2, 0, none⟩) (BP1.out) NP1_P2.out _⟩; have nb_ : Aside0 (Below w.heap.size w W12) := ⟨by rw [← hW12]; exact below_set (HB.out) GP2.out⟩; have hne_ : ∀ k, some k = (Value.slice Ai1 t231.length ci1).ownBlock → k ≠ gP2 := fun k hk => (by obtain ⟨cs, hcs⟩ := Kd.R_typed HO.out k hk.symm; exact blk_ne hcs BP2.out (by decide)); have nr_ : Aside0 (Kd.R (Kd.int .u8) 5 W12 w.heap.size (fun k_ => some k_ = (Value.slice Ai1 t231.length ci1).ownBlock) (.slice Ai1 t231.length ci1) t231) := ⟨by rw [← hW12]; exact Kd.R_step (HO.out) (fun k hk hlt => Below.heap_setCell _ ⟨gP2, 0, none⟩ _ k (hne_ k hk))⟩; rw [hW12]; clear hW12 HB B214 B215 B223 BS BD BP0 BP1 BP2 HO hne_; have HB := nb_; have BP2 := nk_; have B214 := n214_; have B215 := n215_; have B223 := n223_; have BS := nS_; have BD := nD_; have BP0 := nP0_; have BP1 := nP1_; have HO := nr_; clear nb_ nk_ n214_ n215_ n223_ nS_ nD_ nP0_ nP1_ nr_; refine (printing_degradations_3.calls k t229 t230 _ _ t231 a1_0 a1_1 a1_2 a1_3 t234 t235 t236 _ gD BD.out (Kd.R_reads' HO.out).2.2 (Kd.R_reads' HO.out).2.1 A54.out).mono ?_; rintro e W13 ⟨vi2, rfl, ho, hb⟩; have hsz_ := HB.out.size; have n0_ := Aside0.mk (blk_below B214.out hb); have n1_ := Aside0.mk (blk_below B215.out hb); have n2_ := Aside0.mk (blk_below B223.out hb); have n3_ := Aside0.mk (blk_below BS.out hb); have n4_ := Aside0.mk (blk_below BD.out hb); have n5_ := Aside0.mk (blk_below BP0.out hb); have n6_ := Aside0.mk (blk_below BP1.out hb); have n7_ := Aside0.mk (blk_below BP2.out hb); have n8_ := Aside0.mk (below_step HB.out hb); clear B214 B215 B223 BS BD BP0 BP1 BP2 HB HO; have B214 := n0_; have B215 := n1_; have B223 := n2_; have BS := n3_; have BD := n4_; have BP0 := n5_; have BP1 := n6_; have BP2 := n7_; have HB := n8_; clear n0_ n1_ n2_ n3_ n4_ n5_ n6_ n7_ n8_; clear hb; obtain ⟨Ai2, ci2, ei⟩ := Kd.R_slice ho; subst ei; have HO : Aside0 (Kd.R (Kd.int .u8) 5 W13 w.heap.size (fun k_ => some k_ = (Value.slice Ai2 t236.length ci2).ownBlock) (.slice Ai2 t236.length ci2) t236) := ⟨Kd.R_lower (Kd.R_flat printing_Print.u8_flat ho (fun k hk _ => hk.symm)) (by assumption)⟩; clear ho hsz_; have hc2230 : W13.cell? ⟨gb223, 0, none⟩ = some (.int .i64 t229) := (blk_cell B223.out 0).trans rfl; have hc2231 : W13.cell? ⟨gb223, 1, none⟩ = some (.int .i64 t230) := (blk_cell B223.out 1).trans rfl; have hc2232 : W13.cell? ⟨gb223, 2, none⟩ = some (.slice Ai1 t231.length ci1) := (blk_cell B223.out 2).trans rfl; have hf2230 := blk_frozen B223.out 0; have hf2231 := blk_frozen B223.out 1; have hf2232 := blk_frozen B223.out 2))
      obtain ⟨W14, hW14⟩ : ∃ W_, (((W13).setCell ⟨gb223, 0, none⟩ (.int .i64 t234)).setCell ⟨gb223, 1, none⟩ (.int .i64 t235)).setCell ⟨gb223, 2, none⟩ (.slice Ai2 t236.length ci2) = W_ := ⟨_, rfl⟩
      have nk_ : Aside0 (W14.heap[gb223]? = some (.cells #[.int .i64 t234, .int .i64 t235, .slice Ai2 t236.length ci2] 24 (0, 0))) := ⟨by rw [← hW14]; exact blk_put (blk_put (blk_put (B223.out) 0 _ rfl) 1 _ rfl) 2 _ rfl⟩
      have n214_ : Aside0 (W14.heap[gb214]? = some (.cells #[.int .i64 a1_0, .int .i64 a1_1, .int .i64 a1_2, .int .u32 a1_3] 38 (0, 0))) := ⟨by rw [← hW14]; exact blk_far (p := ⟨gb223, 2, none⟩) (blk_far (p := ⟨gb223, 1, none⟩) (blk_far (p := ⟨gb223, 0, none⟩) (B214.out) N214_223.out _) N214_223.out _) N214_223.out _⟩
      have n215_ : Aside0 (W14.heap[gb215]? = some (.cells #[.int .i64 0, .int .i64 0, .slice none 0 0] 24 (0, 0))) := ⟨by rw [← hW14]; exact blk_far (p := ⟨gb223, 2, none⟩) (blk_far (p := ⟨gb223, 1, none⟩) (blk_far (p := ⟨gb223, 0, none⟩) (B215.out) N215_223.out _) N215_223.out _) N215_223.out _⟩
      have nS_ : Aside0 (W14.heap[gS]? = some (.cells #[.func (.func 53) #[] #[.pointer (some ⟨gD, 0, none⟩)], .func (.func 55) #[] #[.pointer (some ⟨gD, 0, none⟩)], .func (.func 56) #[] #[.pointer (some ⟨gD, 0, none⟩)]] 69 (0, 0))) := ⟨by rw [← hW14]; exact blk_far (p := ⟨gb223, 2, none⟩) (blk_far (p := ⟨gb223, 1, none⟩) (blk_far (p := ⟨gb223, 0, none⟩) (BS.out) NS_223.out _) NS_223.out _) NS_223.out _⟩
      have nD_ : Aside0 (W14.heap[gD]? = some (.cells #[.int .i64 a1_0, .int .i64 a1_1, .int .i64 a1_2, .int .u32 a1_3] 38 (0, 0))) := ⟨by rw [← hW14]; exact blk_far (p := ⟨gb223, 2, none⟩) (blk_far (p := ⟨gb223, 1, none⟩) (blk_far (p := ⟨gb223, 0, none⟩) (BD.out) ND_223.out _) ND_223.out _) ND_223.out _⟩
      have nP0_ : Aside0 (W14.heap[gP0]? = some (.cells #[.func (.func 53) #[] #[.pointer (some ⟨gD, 0, none⟩)]] 69 (0, 0))) := ⟨by rw [← hW14]; exact blk_far (p := ⟨gb223, 2, none⟩) (blk_far (p := ⟨gb223, 1, none⟩) (blk_far (p := ⟨gb223, 0, none⟩) (BP0.out) NP0_223.out _) NP0_223.out _) NP0_223.out _⟩
      have nP1_ : Aside0 (W14.heap[gP1]? = some (.cells #[.func (.func 55) #[] #[.pointer (some ⟨gD, 0, none⟩)]] 69 (0, 0))) := ⟨by rw [← hW14]; exact blk_far (p := ⟨gb223, 2, none⟩) (blk_far (p := ⟨gb223, 1, none⟩) (blk_far (p := ⟨gb223, 0, none⟩) (BP1.out) NP1_223.out _) NP1_223.out _) NP1_223.out _⟩
      have nP2_ : Aside0 (W14.heap[gP2]? = some (.cells #[.func (.func 56) #[] #[.pointer (some ⟨gD, 0, none⟩)]] 69 (0, 0))) := ⟨by rw [← hW14]; exact blk_far (p := ⟨gb223, 2, none⟩) (blk_far (p := ⟨gb223, 1, none⟩) (blk_far (p := ⟨gb223, 0, none⟩) (BP2.out) NP2_223.out _) NP2_223.out _) NP2_223.out _⟩
      have nb_ : Aside0 (Below w.heap.size w W14) := ⟨by rw [← hW14]; exact below_set (below_set (below_set (HB.out) G223.out) G223.out) G223.out⟩
      have hne_ : ∀ k, some k = (Value.slice Ai2 t236.length ci2).ownBlock → k ≠ gb223 := fun k hk => (by obtain ⟨cs, hcs⟩ := Kd.R_typed HO.out k hk.symm; exact blk_ne hcs B223.out (by decide))
      have nr_ : Aside0 (Kd.R (Kd.int .u8) 5 W14 w.heap.size (fun k_ => some k_ = (Value.slice Ai2 t236.length ci2).ownBlock) (.slice Ai2 t236.length ci2) t236) := ⟨by rw [← hW14]; exact Kd.R_step (Kd.R_step (Kd.R_step (HO.out) (fun k hk hlt => Below.heap_setCell _ ⟨gb223, 0, none⟩ _ k (hne_ k hk))) (fun k hk hlt => Below.heap_setCell _ ⟨gb223, 1, none⟩ _ k (hne_ k hk))) (fun k hk hlt => Below.heap_setCell _ ⟨gb223, 2, none⟩ _ k (hne_ k hk))⟩
      rw [hW14]
      clear hW14 HB B214 B215 B223 BS BD BP0 BP1 BP2 HO hne_
      have HB := nb_; have B223 := nk_; have B214 := n214_; have B215 := n215_; have BS := nS_; have BD := nD_; have BP0 := nP0_; have BP1 := nP1_; have BP2 := nP2_; have HO := nr_
      clear nb_ nk_ n214_ n215_ nS_ nD_ nP0_ nP1_ nP2_ nr_
      have hc2150 : W14.cell? ⟨gb215, 0, none⟩ = some (.int .i64 0) := (blk_cell B215.out 0).trans rfl
      have hc2151 : W14.cell? ⟨gb215, 1, none⟩ = some (.int .i64 0) := (blk_cell B215.out 1).trans rfl
      have hc2152 : W14.cell? ⟨gb215, 2, none⟩ = some (.slice none 0 0) := (blk_cell B215.out 2).trans rfl
      have hf2150 := blk_frozen B215.out 0
      have hf2151 := blk_frozen B215.out 1
      have hf2152 := blk_frozen B215.out 2
      have hc2230 : W14.cell? ⟨gb223, 0, none⟩ = some (.int .i64 t234) := (blk_cell B223.out 0).trans rfl
      have hc2231 : W14.cell? ⟨gb223, 1, none⟩ = some (.int .i64 t235) := (blk_cell B223.out 1).trans rfl
      have hc2232 : W14.cell? ⟨gb223, 2, none⟩ = some (.slice Ai2 t236.length ci2) := (blk_cell B223.out 2).trans rfl
      have hf2230 := blk_frozen B223.out 0
      have hf2231 := blk_frozen B223.out 1
      have hf2232 := blk_frozen B223.out 2
      have hn215 := N215_223.out; have hn223 := N223_215.out
      rw [rounds_succ]
      go_wp2
      obtain ⟨W15, hW15⟩ : ∃ W_, (((W14).setCell ⟨gb215, 0, none⟩ (.int .i64 t234)).setCell ⟨gb215, 1, none⟩ (.int .i64 t235)).setCell ⟨gb215, 2, none⟩ (.slice Ai2 t236.length ci2) = W_ := ⟨_, rfl⟩
      have nk_ : Aside0 (W15.heap[gb215]? = some (.cells #[.int .i64 t234, .int .i64 t235, .slice Ai2 t236.length ci2] 24 (0, 0))) := ⟨by rw [← hW15]; exact blk_put (blk_put (blk_put (B215.out) 0 _ rfl) 1 _ rfl) 2 _ rfl⟩
      have n214_ : Aside0 (W15.heap[gb214]? = some (.cells #[.int .i64 a1_0, .int .i64 a1_1, .int .i64 a1_2, .int .u32 a1_3] 38 (0, 0))) := ⟨by rw [← hW15]; exact blk_far (p := ⟨gb215, 2, none⟩) (blk_far (p := ⟨gb215, 1, none⟩) (blk_far (p := ⟨gb215, 0, none⟩) (B214.out) N214_215.out _) N214_215.out _) N214_215.out _⟩
      have n223_ : Aside0 (W15.heap[gb223]? = some (.cells #[.int .i64 t234, .int .i64 t235, .slice Ai2 t236.length ci2] 24 (0, 0))) := ⟨by rw [← hW15]; exact blk_far (p := ⟨gb215, 2, none⟩) (blk_far (p := ⟨gb215, 1, none⟩) (blk_far (p := ⟨gb215, 0, none⟩) (B223.out) N223_215.out _) N223_215.out _) N223_215.out _⟩
      have nS_ : Aside0 (W15.heap[gS]? = some (.cells #[.func (.func 53) #[] #[.pointer (some ⟨gD, 0, none⟩)], .func (.func 55) #[] #[.pointer (some ⟨gD, 0, none⟩)], .func (.func 56) #[] #[.pointer (some ⟨gD, 0, none⟩)]] 69 (0, 0))) := ⟨by rw [← hW15]; exact blk_far (p := ⟨gb215, 2, none⟩) (blk_far (p := ⟨gb215, 1, none⟩) (blk_far (p := ⟨gb215, 0, none⟩) (BS.out) NS_215.out _) NS_215.out _) NS_215.out _⟩
      have nD_ : Aside0 (W15.heap[gD]? = some (.cells #[.int .i64 a1_0, .int .i64 a1_1, .int .i64 a1_2, .int .u32 a1_3] 38 (0, 0))) := ⟨by rw [← hW15]; exact blk_far (p := ⟨gb215, 2, none⟩) (blk_far (p := ⟨gb215, 1, none⟩) (blk_far (p := ⟨gb215, 0, none⟩) (BD.out) ND_215.out _) ND_215.out _) ND_215.out _⟩
      have nP0_ : Aside0 (W15.heap[gP0]? = some (.cells #[.func (.func 53) #[] #[.pointer (some ⟨gD, 0, none⟩)]] 69 (0, 0))) := ⟨by rw [← hW15]; exact blk_far (p := ⟨gb215, 2, none⟩) (blk_far (p := ⟨gb215, 1, none⟩) (blk_far (p := ⟨gb215, 0, none⟩) (BP0.out) NP0_215.out _) NP0_215.out _) NP0_215.out _⟩
      have nP1_ : Aside0 (W15.heap[gP1]? = some (.cells #[.func (.func 55) #[] #[.pointer (some ⟨gD, 0, none⟩)]] 69 (0, 0))) := ⟨by rw [← hW15]; exact blk_far (p := ⟨gb215, 2, none⟩) (blk_far (p := ⟨gb215, 1, none⟩) (blk_far (p := ⟨gb215, 0, none⟩) (BP1.out) NP1_215.out _) NP1_215.out _) NP1_215.out _⟩
      have nP2_ : Aside0 (W15.heap[gP2]? = some (.cells #[.func (.func 56) #[] #[.pointer (some ⟨gD, 0, none⟩)]] 69 (0, 0))) := ⟨by rw [← hW15]; exact blk_far (p := ⟨gb215, 2, none⟩) (blk_far (p := ⟨gb215, 1, none⟩) (blk_far (p := ⟨gb215, 0, none⟩) (BP2.out) NP2_215.out _) NP2_215.out _) NP2_215.out _⟩
      have nb_ : Aside0 (Below w.heap.size w W15) := ⟨by rw [← hW15]; exact below_set (below_set (below_set (HB.out) G215.out) G215.out) G215.out⟩
      have hne_ : ∀ k, some k = (Value.slice Ai2 t236.length ci2).ownBlock → k ≠ gb215 := fun k hk => (by obtain ⟨cs, hcs⟩ := Kd.R_typed HO.out k hk.symm; exact blk_ne hcs B215.out (by decide))
      have nr_ : Aside0 (Kd.R (Kd.int .u8) 5 W15 w.heap.size (fun k_ => some k_ = (Value.slice Ai2 t236.length ci2).ownBlock) (.slice Ai2 t236.length ci2) t236) := ⟨by rw [← hW15]; exact Kd.R_step (Kd.R_step (Kd.R_step (HO.out) (fun k hk hlt => Below.heap_setCell _ ⟨gb215, 0, none⟩ _ k (hne_ k hk))) (fun k hk hlt => Below.heap_setCell _ ⟨gb215, 1, none⟩ _ k (hne_ k hk))) (fun k hk hlt => Below.heap_setCell _ ⟨gb215, 2, none⟩ _ k (hne_ k hk))⟩
      rw [hW15]
      clear hW15 HB B214 B215 B223 BS BD BP0 BP1 BP2 HO hne_
      have HB := nb_; have B215 := nk_; have B214 := n214_; have B223 := n223_; have BS := nS_; have BD := nD_; have BP0 := nP0_; have BP1 := nP1_; have BP2 := nP2_; have HO := nr_
      clear nb_ nk_ n214_ n223_ nS_ nD_ nP0_ nP1_ nP2_ nr_
      refine bodyPost_ret (results_ct rfl _ _ gb215 24 #[.int .i64 t234, .int .i64 t235, .slice Ai2 t236.length ci2] (0, 0) _ rfl B215.out Try.underlying24 rfl (by kernel_rfl)) rfl ?_
      exact ⟨_, rfl, Kd.R_mono HO.out (fun _ _ => trivial), HB.out⟩
 ·rw [if_neg c4] at H
  have c4b0 : (t216 == 0) = false := beq_eq_false_iff_ne.mpr c4
  have c4b1 : (t216 != 0) = true := bne_iff_ne.mpr c4
  simp only [Option.some.injEq, Prod.mk.injEq] at H
  obtain ⟨rfl, rfl, rfl, rfl⟩ := H
  go_enter Try.func15, Try.ntmps15
  go_wp2_with (first | ((with_reducible refine gate_dst (N := 2) rfl ?_); (try (refine gate_guard (by rfl) ?_; dsimp only)); refine box_event ?hg (N := 2) ?hd (cs := #[.int .i64 a0_0, .int .i64 a0_1, .slice A0_2 l0_2.length c0_2]) (t := 33) ?hr ?_; (case hd => rfl); (case hg => rfl); (case hr => first | (go_simp; done) | (go_simp; rfl)); intro gb213 hg w83 hbox hb; have n0_ := Aside0.mk (below_step (hb0 HB) hb); have n1_ := Aside0.mk (hbox); have n2_ := Aside0.mk ((by rw [hg]; exact (below_size (hb0 HB)) : w.heap.size ≤ gb213)); have n3_ := Aside0.mk ((by rw [hg]; exact (below_size (hb0 HB)) : w.heap.size ≤ gb213)); clear HB; have HB := n0_; have BK213 := n1_; have GW213 := n2_; have GE213 := n3_; clear n0_ n1_ n2_ n3_; clear hb hbox hg) | ((with_reducible refine gate_dst (N := 3) rfl ?_); (try (refine gate_guard (by rfl) ?_; dsimp only)); refine box_event ?hg (N := 3) ?hd (cs := #[.int .i64 a1_0, .int .i64 a1_1, .int .i64 a1_2, .int .u32 a1_3]) (t := 38) ?hr ?_; (case hd => rfl); (case hg => rfl); (case hr => first | (go_simp; done) | (go_simp; rfl)); intro gb214 hg w84 hbox hb; have n0_ := Aside0.mk (blk_below (bkx BK213) hb); have n1_ := Aside0.mk (below_step (hb1 HB GE213) hb); have n2_ := Aside0.mk (hbox); have n3_ := Aside0.mk ((by rw [hg]; exact (below_size (hb1 HB GE213)) : w.heap.size ≤ gb214)); have n4_ := Aside0.mk ((by rw [hg]; exact (below_size (hb1 HB GE213)) : w.heap.size ≤ gb214)); have n5_ := Aside0.mk (nel hg BK213 : gb213 ≠ gb214); have n6_ := Aside0.mk (neg hg BK213 : gb214 ≠ gb213); clear BK213; clear HB; have BK213 := n0_; have HB := n1_; have BK214 := n2_; have GW214 := n3_; have GE214 := n4_; have NB213_214 := n5_; have NB214_213 := n6_; clear n0_ n1_ n2_ n3_ n4_ n5_ n6_; clear hb hbox hg) | ((with_reducible refine gate_dst (N := 4) rfl ?_); (try (refine gate_guard (by rfl) ?_; dsimp only)); refine box_event ?hg (N := 4) ?hd (cs := #[.int .i64 0, .int .i64 0, .slice none 0 0]) (t := 24) ?hr ?_; (case hd => rfl); (case hg => rfl); (case hr => first | (go_simp; done) | (go_simp; rfl)); intro gb215 hg w85 hbox hb; have n0_ := Aside0.mk (blk_below (bkx BK213) hb); have n1_ := Aside0.mk (blk_below (bkx BK214) hb); have n2_ := Aside0.mk (below_step (hb2 HB GE213 GE214) hb); have n3_ := Aside0.mk (hbox); have n4_ := Aside0.mk ((by rw [hg]; exact (below_size (hb2 HB GE213 GE214)) : w.heap.size ≤ gb215)); have n5_ := Aside0.mk ((by rw [hg]; exact (below_size (hb2 HB GE213 GE214)) : w.heap.size ≤ gb215)); have n6_ := Aside0.mk (nel hg BK213 : gb213 ≠ gb215); have n7_ := Aside0.mk (neg hg BK213 : gb215 ≠ gb213); have n8_ := Aside0.mk (nel hg BK214 : gb214 ≠ gb215); have n9_ := Aside0.mk (neg hg BK214 : gb215 ≠ gb214); clear BK213; clear BK214; clear HB; have BK213 := n0_; have BK214 := n1_; have HB := n2_; have BK215 := n3_; have GW215 := n4_; have GE215 := n5_; have NB213_215 := n6_; have NB215_213 := n7_; have NB214_215 := n8_; have NB215_214 := n9_; clear n0_ n1_ n2_ n3_ n4_ n5_ n6_ n7_ n8_ n9_; clear hb hbox hg; have hnb86 := NB213_214.out; have hnc86 := NB214_213.out; have hnb87 := NB213_215.out; have hnc87 := NB215_213.out; have hcz88_0 : w85.cell? ⟨gb213, 0, none⟩ = some (.int .i64 a0_0) := (blk_cell BK213.out 0).trans rfl; have hcz88_1 : w85.cell? ⟨gb213, 1, none⟩ = some (.int .i64 a0_1) := (blk_cell BK213.out 1).trans rfl; have hcz88_2 : w85.cell? ⟨gb213, 2, none⟩ = some (.slice A0_2 l0_2.length c0_2) := (blk_cell BK213.out 2).trans rfl; have hfz88_0 := blk_frozen BK213.out 0; have hfz88_1 := blk_frozen BK213.out 1; have hfz88_2 := blk_frozen BK213.out 2) | ((with_reducible refine gate_callee (f := 35) rfl ?_); refine goesL_ (some 12) rfl rfl Try.func35 (by kernel_rfl) rfl #[.agg #[.int .i64 a0_0, .int .i64 a0_1, .slice A0_2 l0_2.length c0_2]] rfl mapx ?_; (with_reducible refine (raster_Check.calls a0_0 a0_1 _ _ l0_2 t216 _ ?side1 ?side2 A3.out).mono ?_); (case side1 => repeat (first | exact (Kd.C_below HR0_2.out HB.out) | (with_reducible refine Kd.C_alloc ?_ _) | (with_reducible refine Kd.C_drewN ?_ _) | (with_reducible refine Kd.C_drew ?_))); (case side2 => exact HC0_2.out); rintro e w89 ⟨rfl, hb⟩; refine ⟨_, rfl, ?_⟩; have n0_ := Aside0.mk (blk_below (bkx BK213) hb); have n1_ := Aside0.mk (blk_below (bkx BK214) hb); have n2_ := Aside0.mk (blk_below (bkx BK215) hb); have n3_ := Aside0.mk (below_step (hb3 HB GE213 GE214 GE215) hb); clear BK213; clear BK214; clear BK215; clear HB; have BK213 := n0_; have BK214 := n1_; have BK215 := n2_; have HB := n3_; clear n0_ n1_ n2_ n3_; (try clear hb); (try clear hb2); (try clear hk); (try clear hi); have hnb90 := NB215_214.out; have hnc90 := NB214_215.out; have hcz91_0 : w89.cell? ⟨gb215, 0, none⟩ = some (.int .i64 0) := (blk_cell BK215.out 0).trans rfl; have hcz91_1 : w89.cell? ⟨gb215, 1, none⟩ = some (.int .i64 0) := (blk_cell BK215.out 1).trans rfl; have hcz91_2 : w89.cell? ⟨gb215, 2, none⟩ = some (.slice none 0 0) := (blk_cell BK215.out 2).trans rfl; have hfz91_0 := blk_frozen BK215.out 0; have hfz91_1 := blk_frozen BK215.out 1; have hfz91_2 := blk_frozen BK215.out 2))
  refine bodyPost_ret (results_ct rfl _ _ gb215 24 #[.int .i64 0, .int .i64 0, .slice none 0 0] (0, 0) _ rfl (by refine bkt ?_; refine blk_put (cs := #[.int .i64 0, .int .i64 0, .slice none 0 0]) ?_ 2 _ rfl; refine bkt ?_; refine blk_put (cs := #[.int .i64 0, .int .i64 0, .slice none 0 0]) ?_ 1 _ rfl; refine bkt ?_; refine blk_put (cs := #[.int .i64 0, .int .i64 0, .slice none 0 0]) ?_ 0 _ rfl; refine bkt ?_; exact BK215.out) Try.underlying24 rfl (by kernel_rfl)) rfl ?_
  exact ⟨_, by first | rfl | (simp [errW_none, errW_some] <;> rfl) | (simp [*, errW_none, errW_some] <;> rfl), by first | exact Kd.R_nil _ _ _ _ _ | exact Kd.N_nil _ _ _ _ _ | exact Kd.V_nil _ _ _ _ _ | exact Kd.Q_nil _ _ _ _ _ | exact Kd.S_nil _ _ _ _ _, by repeat (first | (with_reducible first | exact HB.out | apply below_alloc | apply pw_below_drewN | apply below_drew1 | refine below_set ?_ GE213.out | refine below_set ?_ GE214.out | refine below_set ?_ GE215.out) | exact HB.out)⟩


/-! ### barscanref31_fits: function 52 -/
def barscanref31_fits.f (a0 : Int) (a1 : Int) : Option (Bool) := if a0 ≥ 1 then (if a0 ≤ 4096 then (if a1 ≥ 1 then (if a1 ≤ 4096 then (some (decide ((wrap64 (a0 * a1)) ≤ 4194304))) else (some false)) else (some false)) else (some false)) else (some false)
set_option maxHeartbeats 8000000 in
set_option maxRecDepth 100000 in
theorem barscanref31_fits.calls (a0 : Int) (a1 : Int) (r : Bool) (w : World) (h : barscanref31_fits.f a0 a1 = some r) :
  Calls Try.prog 52 #[.int .i64 a0, .int .i64 a1] w fun e w' => e = .returned (.bool r) ∧ Drawn0 w w' := by
 have H : (if a0 ≥ 1 then (if a0 ≤ 4096 then (if a1 ≥ 1 then (if a1 ≤ 4096 then (some (decide ((wrap64 (a0 * a1)) ≤ 4194304))) else (some false)) else (some false)) else (some false)) else (some false)) = some r := h
 clear h
 by_cases c3 : a0 ≥ 1
 ·rw [if_pos c3] at H
  have c3b0 : decide (1 ≤ a0) = true := decide_eq_true c3
  clear c3
  by_cases c4 : a0 ≤ 4096
  ·rw [if_pos c4] at H
   have c4b0 : decide (a0 ≤ 4096) = true := decide_eq_true c4
   clear c4
   by_cases c5 : a1 ≥ 1
   ·rw [if_pos c5] at H
    have c5b0 : decide (1 ≤ a1) = true := decide_eq_true c5
    clear c5
    by_cases c6 : a1 ≤ 4096
    ·rw [if_pos c6] at H
     have c6b0 : decide (a1 ≤ 4096) = true := decide_eq_true c6
     clear c6
     obtain rfl := Option.some.inj H
     go_enter Try.func52, Try.ntmps52
     go_wp2
     go_ret
     exact ⟨by first | rfl | (simp; done) | (simp [*]; done), by repeat (first | exact Drawn0.refl _ | apply Drawn0.step)⟩
    ·rw [if_neg c6] at H
     have c6b0 : decide (a1 ≤ 4096) = false := decide_eq_false c6
     clear c6
     obtain rfl := Option.some.inj H
     go_enter Try.func52, Try.ntmps52
     go_wp2
     go_ret
     exact ⟨by first | rfl | (simp; done) | (simp [*]; done), by repeat (first | exact Drawn0.refl _ | apply Drawn0.step)⟩
   ·rw [if_neg c5] at H
    have c5b0 : decide (1 ≤ a1) = false := decide_eq_false c5
    clear c5
    obtain rfl := Option.some.inj H
    go_enter Try.func52, Try.ntmps52
    go_wp2
    go_ret
    exact ⟨by first | rfl | (simp; done) | (simp [*]; done), by repeat (first | exact Drawn0.refl _ | apply Drawn0.step)⟩
  ·rw [if_neg c4] at H
   have c4b0 : decide (a0 ≤ 4096) = false := decide_eq_false c4
   clear c4
   obtain rfl := Option.some.inj H
   go_enter Try.func52, Try.ntmps52
   go_wp2
   go_ret
   exact ⟨by first | rfl | (simp; done) | (simp [*]; done), by repeat (first | exact Drawn0.refl _ | apply Drawn0.step)⟩
 ·rw [if_neg c3] at H
  have c3b0 : decide (1 ≤ a0) = false := decide_eq_false c3
  clear c3
  obtain rfl := Option.some.inj H
  go_enter Try.func52, Try.ntmps52
  go_wp2
  go_ret
  exact ⟨by first | rfl | (simp; done) | (simp [*]; done), by repeat (first | exact Drawn0.refl _ | apply Drawn0.step)⟩

end Go.Proofs.Ytbipbbckfmilfaa.PR
