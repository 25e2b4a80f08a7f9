-- Written by this session's own program (myprint.py).
import Derived.Test.YtbipbbckfmilfaaPRx0
import Derived.Test.YtbipbbckfmilfaaPRx6
namespace Go.Proofs.Ytbipbbckfmilfaa.PR
open Go.RowKit Go.Proofs.YtbipbbckfmilfaaW.PrintWords Go.Proofs.YtbipbbckfmilfaaW.PrintLast Go.Proofs.YtbipbbckfmilfaaW.PrintMore Go.Proofs.Ytbipbbckfmilfaa.XWords Go.Proofs.Ytbipbbckfmilfaa.XShort Go.Proofs.Ytbipbbckfmilfaa.XFn
attribute [local go_sem] max2_int min2_int max_two min_two max_three min_three max_four min_four   -- for this text's walks alone
set_option linter.unusedVariables false
set_option linter.unusedSimpArgs false

/-! ### raster_Gray: function 17 -/
def raster_Gray.l0 : Nat → List Bool → Int → Int → Int → Int → List Int → Option (Int × Int × List Int × Int)
 | 0, _, _, _, _, _, _ => none
 | k + 1, x24, x25, x26, x262000, x262001, x262002 => if x26 < x25 then (if 0 ≤ x26 then (if x26 < (x24.length : Int) then (if rdOf false x24 x26 = true then (raster_Gray.l0 k x24 x25 (wrap64 (x26 + 1)) x262000 x262001 x262002) else (if x26 < (x262002.length : Int) then (raster_Gray.l0 k x24 x25 (wrap64 (x26 + 1)) x262000 x262001 (x262002.set (x26 : Int).toNat 255)) else (none))) else (none)) else (none)) else (some (x262000, x262001, x262002, 0))
def raster_Gray.f (k : Nat) (a0_0 : Int) (a0_1 : Int) (l0_2 : List Bool) : Option (Int × Int × List Int × Int) := (raster_Check.f a0_0 a0_1 l0_2).bind fun t257 => (if t257 = 0 then (if 0 ≤ (l0_2.length : Int) then (if ((l0_2.length : Int) : Int).toNat ≤ 281474976710656 then (raster_Gray.l0 k l0_2 (l0_2.length : Int) 0 a0_0 a0_1 (List.replicate ((l0_2.length : Int) : Int).toNat 0)) else (none)) else (none)) else (some (0, 0, ([] : List Int), t257)))
theorem raster_Gray.mono_l : ∀ k, (∀ y0 y1 y2 y3 y4 y5, LeO (raster_Gray.l0 k y0 y1 y2 y3 y4 y5) (raster_Gray.l0 (k + 1) y0 y1 y2 y3 y4 y5))
 | 0 => fun _ _ _ _ _ _ r h => by simp [raster_Gray.l0] at h
 | k + 1 => by
  have ih0 := raster_Gray.mono_l k
  ·intro y0 y1 y2 y3 y4 y5
   unfold raster_Gray.l0
   repeat' first
   | (with_reducible exact ih0 _ _ _ _ _ _)
   | (with_reducible exact LeO.refl _)
   | (with_reducible exact LeO.none _)
   | (with_reducible refine LeO.ite ?_ ?_)
   | (with_reducible refine LeO.bind ?_ (fun _ => ?_))
   | exact ih0 _ _ _ _ _ _
   | exact LeO.none _
   | refine LeO.ite ?_ ?_
   | refine LeO.bind ?_ (fun _ => ?_)
theorem raster_Gray.mono : ∀ a0 a1 a2 k, LeO (raster_Gray.f k a0 a1 a2) (raster_Gray.f (k + 1) a0 a1 a2) := by
 intro a0 a1 a2 k
 have ih0 := raster_Gray.mono_l k
 unfold raster_Gray.f
 repeat' first
   | (with_reducible exact ih0 _ _ _ _ _ _)
   | (with_reducible exact LeO.refl _)
   | (with_reducible exact LeO.none _)
   | (with_reducible refine LeO.ite ?_ ?_)
   | (with_reducible refine LeO.bind ?_ (fun _ => ?_))
   | exact ih0 _ _ _ _ _ _
   | exact LeO.none _
   | refine LeO.ite ?_ ?_
   | refine LeO.bind ?_ (fun _ => ?_)
def raster_Gray.T4 : Bool × List (List Nat × List Nat) := (true, [([], []), ([0], [0]), ([], []), ([2], [2]), ([], []), ([4], [4]), ([5], [5]), ([6, 6], [6]), ([1, 3, 7], [1, 3, 7]), ([], []), ([9, 8, 0, 1, 2, 3, 4, 5, 6, 7, 8, 9], [8, 9])])
def raster_Gray.B4 : List Nat := [0, 1, 0, 4, 0, 16, 48, 112, 255, 0, 1023]
theorem raster_Gray.tab4 : rtab .any (opsOf Try.f17 4) = raster_Gray.T4 := by kernel_rfl
theorem raster_Gray.bits4 : waitsOk raster_Gray.T4.2 raster_Gray.B4 = true := by kernel_rfl
set_option maxHeartbeats 8000000 in
set_option maxRecDepth 100000 in
theorem raster_Gray.calls (k : Nat) (a0_0 : Int) (a0_1 : Int) (A0_2 : Option Addr) (c0_2 : Nat) (l0_2 : List Bool) (r1 : Int) (r2 : Int) (r3 : List Int) (r4 : Int) (w : World) (hr0_2 : Kd.C Kd.bool w A0_2 l0_2.length l0_2) (hc0_2 : l0_2.length ≤ c0_2) (h : raster_Gray.f k a0_0 a0_1 l0_2 = some (r1, r2, r3, r4)) :
  Calls Try.prog 17 #[.agg #[.int .i64 a0_0, .int .i64 a0_1, .slice A0_2 l0_2.length c0_2]] w fun e w' => ∃ v2_ : Value, e = .returned (.tuple #[.agg #[.int .i64 r1, .int .i64 r2, v2_], .int .i64 r4]) ∧ Kd.R (Kd.int .u8) 5 w' w.heap.size (fun _ => True) v2_ r3 ∧ Below w.heap.size w w' := by
 have hu33 := Try.underlying33
 have hu24 := Try.underlying24
 have HR0_2 := Aside0.mk hr0_2
 have HC0_2 := Aside0.mk hc0_2
 clear hr0_2 hc0_2
 have HB := Aside0.mk (Below.refl w.heap.size w)
 have H : ((raster_Check.f a0_0 a0_1 l0_2).bind fun t257 => (if t257 = 0 then (if 0 ≤ (l0_2.length : Int) then (if ((l0_2.length : Int) : Int).toNat ≤ 281474976710656 then (raster_Gray.l0 k l0_2 (l0_2.length : Int) 0 a0_0 a0_1 (List.replicate ((l0_2.length : Int) : Int).toNat 0)) else (none)) else (none)) else (some (0, 0, ([] : List Int), t257)))) = some (r1, r2, r3, r4) := h
 clear h
 replace H := Option.bind_eq_some_iff.mp H
 obtain ⟨t257, A20, H⟩ := H
 replace H : (if t257 = 0 then (if 0 ≤ (l0_2.length : Int) then (if ((l0_2.length : Int) : Int).toNat ≤ 281474976710656 then (raster_Gray.l0 k l0_2 (l0_2.length : Int) 0 a0_0 a0_1 (List.replicate ((l0_2.length : Int) : Int).toNat 0)) else (none)) else (none)) else (some (0, 0, ([] : List Int), t257))) = some (r1, r2, r3, r4) := H
 have A2 := Aside0.mk A20
 clear A20
 by_cases c3 : t257 = 0
 ·rw [if_pos c3] at H
  have c3b0 : (t257 == 0) = true := beq_iff_eq.mpr c3
  have c3b1 : (t257 != 0) = false := bne_eq_false_iff_eq.mpr c3
  clear c3
  by_cases c4 : 0 ≤ (l0_2.length : Int)
  ·rw [if_pos c4] at H
   have c4b0 := eq_true c4
   have c4b1 : decide (0 ≤ (l0_2.length : Int)) = true := decide_eq_true c4
   clear c4
   by_cases c5 : ((l0_2.length : Int) : Int).toNat ≤ 281474976710656
   ·rw [if_pos c5] at H
    have c5b0 := eq_true c5
    have c5b1 : decide (((l0_2.length : Int) : Int).toNat ≤ 281474976710656) = true := decide_eq_true c5
    clear c5
    obtain ⟨y258, hy258⟩ : ∃ y_ : List Int, y_ = (List.replicate ((l0_2.length : Int) : Int).toNat 0) := ⟨_, rfl⟩
    replace H : (raster_Gray.l0 k l0_2 (l0_2.length : Int) 0 a0_0 a0_1 y258) = some (r1, r2, r3, r4) := by first | (rw [hy258]; with_reducible exact H) | (have H2_ := (Option.bind_some _ _).symm.trans H; rw [hy258]; with_reducible exact H2_) | (have H2_ := (Option.bind_some _ _).symm.trans H; with_reducible exact H2_) | with_reducible exact H | (rw [hy258]; exact H) | exact H
    have Ny258 := Aside0.mk hy258
    clear hy258
    have H' := Aside0.mk H
    clear H
    go_enter Try.func17, Try.ntmps17
    try go_wp2_with (first | ((with_reducible refine gate_dst (N := 1) rfl ?_); refine box_event ?hg (N := 1) ?hd (cs := #[.int .i64 a0_0, .int .i64 a0_1, .slice A0_2 l0_2.length c0_2]) (t := 33) ?hr ?_; (case hd => rfl); (case hg => rfl); (case hr => first | (go_simp; done) | (go_simp; rfl)); intro gb255 hg w6 hbox hb; have n0_ := Aside0.mk (below_step (hb0 HB) hb); have n1_ := Aside0.mk (hbox); have n2_ := Aside0.mk ((by rw [hg]; exact (below_size (hb0 HB)) : w.heap.size ≤ gb255)); have n3_ := Aside0.mk ((by rw [hg]; exact (below_size (hb0 HB)) : w.heap.size ≤ gb255)); clear HB; have HB := n0_; have BK255 := n1_; have GW255 := n2_; have GE255 := n3_; clear n0_ n1_ n2_ n3_; clear hb hbox hg) | ((with_reducible refine gate_dst (N := 2) rfl ?_); refine box_event ?hg (N := 2) ?hd (cs := #[.int .i64 0, .int .i64 0, .slice none 0 0]) (t := 24) ?hr ?_; (case hd => rfl); (case hg => rfl); (case hr => first | (go_simp; done) | (go_simp; rfl)); intro gb256 hg w7 hbox hb; have n0_ := Aside0.mk (blk_below (bkx BK255) hb); have n1_ := Aside0.mk (below_step (hb1 HB GE255) hb); have n2_ := Aside0.mk (hbox); have n3_ := Aside0.mk ((by rw [hg]; exact (below_size (hb1 HB GE255)) : w.heap.size ≤ gb256)); have n4_ := Aside0.mk ((by rw [hg]; exact (below_size (hb1 HB GE255)) : w.heap.size ≤ gb256)); have n5_ := Aside0.mk (nel hg BK255 : gb255 ≠ gb256); have n6_ := Aside0.mk (neg hg BK255 : gb256 ≠ gb255); clear BK255; clear HB; have BK255 := n0_; have HB := n1_; have BK256 := n2_; have GW256 := n3_; have GE256 := n4_; have NB255_256 := n5_; have NB256_255 := n6_; clear n0_ n1_ n2_ n3_ n4_ n5_ n6_; clear hb hbox hg; have hnb8 := NB255_256.out; have hnc8 := NB256_255.out; have hcz9_0 : w7.cell? ⟨gb255, 0, none⟩ = some (.int .i64 a0_0) := (blk_cell BK255.out 0).trans rfl; have hcz9_1 : w7.cell? ⟨gb255, 1, none⟩ = some (.int .i64 a0_1) := (blk_cell BK255.out 1).trans rfl; have hcz9_2 : w7.cell? ⟨gb255, 2, none⟩ = some (.slice A0_2 l0_2.length c0_2) := (blk_cell BK255.out 2).trans rfl; have hfz9_0 := blk_frozen BK255.out 0; have hfz9_1 := blk_frozen BK255.out 1; have hfz9_2 := blk_frozen BK255.out 2) | ((with_reducible refine gate_callee (f := 35) rfl ?_); refine goesL_ (some 9) rfl rfl Try.func35 (by kernel_rfl) rfl #[.agg #[.int .i64 a0_0, .int .i64 a0_1, .slice A0_2 l0_2.length c0_2]] rfl mapx ?_; (with_reducible refine (raster_Check.calls a0_0 a0_1 _ _ l0_2 t257 _ ?side1 ?side2 A2.out).mono ?_); (case side1 => repeat (first | exact (Kd.C_below HR0_2.out HB.out) | (with_reducible refine Kd.C_alloc ?_ _) | (with_reducible refine Kd.C_drewN ?_ _) | (with_reducible refine Kd.C_drew ?_))); (case side2 => exact HC0_2.out); rintro e w10 ⟨rfl, hb⟩; refine ⟨_, rfl, ?_⟩; have n0_ := Aside0.mk (blk_below (bkx BK255) hb); have n1_ := Aside0.mk (blk_below (bkx BK256) hb); have n2_ := Aside0.mk (below_step (hb2 HB GE255 GE256) hb); clear BK255; clear BK256; clear HB; have BK255 := n0_; have BK256 := n1_; have HB := n2_; clear n0_ n1_ n2_; (try clear hb); (try clear hb2); (try clear hk); (try clear hi)))
    have n0_ := Aside0.mk (blk_drew BK255.out)
    have n1_ := Aside0.mk (blk_drew BK256.out)
    have n2_ := Aside0.mk (below_drew1 HB.out)
    clear BK255
    clear BK256
    clear HB
    have BK255 := n0_
    have BK256 := n1_
    have HB := n2_
    clear n0_ n1_ n2_
    refine start_ (n := 11) (S := fun w' => w'.cell? ⟨gb255, 0, none⟩ = some (.int .i64 a0_0) ∧ w'.cell? ⟨gb255, 1, none⟩ = some (.int .i64 a0_1) ∧ w'.cell? ⟨gb255, 2, none⟩ = some (.slice A0_2 l0_2.length c0_2)) (ds := []) (bA 11 0) (by kernel_rfl) rfl rfl ⟨(blk_cell BK255.out 0).trans rfl, (blk_cell BK255.out 1).trans rfl, (blk_cell BK255.out 2).trans rfl⟩ (fun hHeld => ?_); refine with_tabW raster_Gray.tab4 raster_Gray.bits4 (fun HT_ HW_ => ?_)
    generalize w10.drew = w11 at BK255 BK256 HB hHeld ⊢
    refine pt HT_ 0 14 ?_
    refine pt HT_ 2 16 ?_
    refine pt HT_ 4 18 ?_
    refine tk HT_ HW_ hHeld 1 15 ?_
    refine tk HT_ HW_ hHeld 3 17 ?_
    refine tk HT_ HW_ hHeld 5 19 ?_
    refine pt HT_ 6 20 ?_
    refine join_ (σ := Value × Nat) 1 (bA 11 1023) (fun s_ => [(21, s_.1), (5, .pointer (some ⟨s_.2, 0, none⟩)), (22, .agg #[.int .i64 a0_0, .int .i64 a0_1, s_.1])]) (fun s_ w' => (w'.cell? ⟨gb255, 0, none⟩ = some (.int .i64 a0_0) ∧ w'.cell? ⟨gb255, 1, none⟩ = some (.int .i64 a0_1) ∧ w'.cell? ⟨gb255, 2, none⟩ = some (.slice A0_2 l0_2.length c0_2)) ∧ (Kd.R (Kd.int .u8) 5 w' w.heap.size (fun _ => True) s_.1 y258) ∧ (w'.heap[gb255]? = some (.cells #[.int .i64 a0_0, .int .i64 a0_1, .slice A0_2 l0_2.length c0_2] 33 (0, 0))) ∧ (w'.heap[gb256]? = some (.cells #[.int .i64 0, .int .i64 0, .slice none 0 0] 24 (0, 0))) ∧ (w'.heap[s_.2]? = some (.cells #[.int .i64 0, .int .i64 0, .slice none 0 0] 24 (0, 0))) ∧ (w.heap.size ≤ s_.2) ∧ (w.heap.size ≤ s_.2) ∧ (gb255 ≠ s_.2) ∧ (s_.2 ≠ gb255) ∧ (gb256 ≠ s_.2) ∧ (s_.2 ≠ gb256) ∧ (Below w.heap.size w w')) ?_ ?_
    rotate_left
    ·intro hCont
     refine two_ (i := 7) (j := 9) (Ni := some 21) (Nj := some 5) (bA 11 255) (bA 11 639) rfl rfl rfl rfl (two_of HT_.out (by kernel_rfl)) (by decide) (by decide) (fun K hK => ?_) (fun K hK => ?_)
     ·skip
      refine Kd.R_make_step (Kd.int .u8) _ 5 (by rfl) (N := 21) rfl 22 _ _ rfl (l0_2.length : Int) rfl rfl Try.underlying22 (.int .u8 0) 1 info5 rfl (by decide) (by omega) 0 (ok := fun _ => True) (okp := fun _ => True) rfl (fun _ hk => hk) trivial (of_decide_eq_true (by first | (with_reducible assumption) | assumption)) (Nat.le_trans (Nat.mul_le_mul_right _ (of_decide_eq_true (by first | (with_reducible assumption) | assumption) : (l0_2.length : Int).toNat ≤ 281474976710656)) (by omega)) (Below.refl _ _) (Nat.le_refl _) ?_
      intro v259 w12 ho13 hb hg_ hnew_
      clear hg_ hnew_
      (first | rw [← Ny258.out] at ho13 | (simp only [Int.reduceToNat] at ho13; rw [← Ny258.out] at ho13))
      have n0_ := Aside0.mk (Kd.R_lower ho13 (below_size (hb2 HB GE255 GE256)))
      have n1_ := Aside0.mk (blk_below (bkx BK255) hb)
      have n2_ := Aside0.mk (blk_below (bkx BK256) hb)
      have n3_ := Aside0.mk (below_step (hb2 HB GE255 GE256) hb)
      clear BK255
      clear BK256
      clear HB
      have HO260 := n0_
      have BK255 := n1_
      have BK256 := n2_
      have HB := n3_
      clear n0_ n1_ n2_ n3_
      clear hb ho13
      obtain ⟨Ao14, co14, eo14⟩ := Kd.R_slice HO260.out
      (first | subst eo14 | (injection eo14 with f1_ f2_ f3_; have f4_ := f1_.symm; have f5_ := f3_.symm; clear f1_ f2_ f3_; subst f4_; subst f5_))
      refine hK.out _ _ ⟨(blk_cell BK255.out 0).trans rfl, (blk_cell BK255.out 1).trans rfl, (blk_cell BK255.out 2).trans rfl⟩ (fun hHeld => ?_)
      clear hK K
      refine norm_ (a' := ?_) ?_ ?_
      rotate_left
      ·show Act.put _ (some 21) _ = _
       simp only [Act.put, List.setIfInBounds_toArray, List.set_cons_zero, List.set_cons_succ, i64_w, i32_w]
       rfl
      refine pt HT_ 8 22 ?_
      refine one_ (i := 9) (N := some 5) (bA 11 1023) rfl rfl (one_of HT_.out (by kernel_rfl)) (by decide) (fun K hK => ?_)
      refine box_step ?hg (N := 5) ?hd (cs := #[.int .i64 0, .int .i64 0, .slice none 0 0]) (t := 24) ?hr ?_; (case hd => rfl); (case hg => rfl); (case hr => first | (go_simp; done) | (go_simp; rfl))
      intro gb261 hg w15 hbox hb
      have n0_ := Aside0.mk (Kd.R_below (rkx HO260) hb)
      have n1_ := Aside0.mk (blk_below (bkx BK255) hb)
      have n2_ := Aside0.mk (blk_below (bkx BK256) hb)
      have n3_ := Aside0.mk (below_step (hb2 HB GE255 GE256) hb)
      have n4_ := Aside0.mk (hbox)
      have n5_ := Aside0.mk ((by rw [hg]; exact (below_size (hb2 HB GE255 GE256)) : w.heap.size ≤ gb261))
      have n6_ := Aside0.mk ((by rw [hg]; exact (below_size (hb2 HB GE255 GE256)) : w.heap.size ≤ gb261))
      have n7_ := Aside0.mk (nel hg BK255 : gb255 ≠ gb261)
      have n8_ := Aside0.mk (neg hg BK255 : gb261 ≠ gb255)
      have n9_ := Aside0.mk (nel hg BK256 : gb256 ≠ gb261)
      have n10_ := Aside0.mk (neg hg BK256 : gb261 ≠ gb256)
      clear HO260
      clear BK255
      clear BK256
      clear HB
      have HO260 := n0_
      have BK255 := n1_
      have BK256 := n2_
      have HB := n3_
      have BK261 := n4_
      have GW261 := n5_
      have GE261 := n6_
      have NB255_261 := n7_
      have NB261_255 := n8_
      have NB256_261 := n9_
      have NB261_256 := n10_
      clear n0_ n1_ n2_ n3_ n4_ n5_ n6_ n7_ n8_ n9_ n10_
      clear hb hbox hg
      refine hK.out _ _ ⟨(blk_cell BK255.out 0).trans rfl, (blk_cell BK255.out 1).trans rfl, (blk_cell BK255.out 2).trans rfl⟩ (fun hHeld => ?_)
      clear hK K
      refine norm_ (a' := ?_) ?_ ?_
      rotate_left
      ·show Act.put _ (some 5) _ = _
       simp only [Act.put, List.setIfInBounds_toArray, List.set_cons_zero, List.set_cons_succ, i64_w, i32_w]
       rfl
      exact norm_ (by simp only [putAll, Act.put, List.setIfInBounds_toArray, List.set_cons_zero, List.set_cons_succ]) (hCont (.slice Ao14 y258.length co14, gb261) _ ⟨hHeld, (rkx HO260), (bkx BK255), (bkx BK256), (bkx BK261), GW261.out, GE261.out, NB255_261.out, NB261_255.out, NB256_261.out, NB261_256.out, (hb3 HB GE255 GE256 GE261)⟩)
     ·skip
      refine box_step ?hg (N := 5) ?hd (cs := #[.int .i64 0, .int .i64 0, .slice none 0 0]) (t := 24) ?hr ?_; (case hd => rfl); (case hg => rfl); (case hr => first | (go_simp; done) | (go_simp; rfl))
      intro gb261 hg w12 hbox hb
      have n0_ := Aside0.mk (blk_below (bkx BK255) hb)
      have n1_ := Aside0.mk (blk_below (bkx BK256) hb)
      have n2_ := Aside0.mk (below_step (hb2 HB GE255 GE256) hb)
      have n3_ := Aside0.mk (hbox)
      have n4_ := Aside0.mk ((by rw [hg]; exact (below_size (hb2 HB GE255 GE256)) : w.heap.size ≤ gb261))
      have n5_ := Aside0.mk ((by rw [hg]; exact (below_size (hb2 HB GE255 GE256)) : w.heap.size ≤ gb261))
      have n6_ := Aside0.mk (nel hg BK255 : gb255 ≠ gb261)
      have n7_ := Aside0.mk (neg hg BK255 : gb261 ≠ gb255)
      have n8_ := Aside0.mk (nel hg BK256 : gb256 ≠ gb261)
      have n9_ := Aside0.mk (neg hg BK256 : gb261 ≠ gb256)
      clear BK255
      clear BK256
      clear HB
      have BK255 := n0_
      have BK256 := n1_
      have HB := n2_
      have BK261 := n3_
      have GW261 := n4_
      have GE261 := n5_
      have NB255_261 := n6_
      have NB261_255 := n7_
      have NB256_261 := n8_
      have NB261_256 := n9_
      clear n0_ n1_ n2_ n3_ n4_ n5_ n6_ n7_ n8_ n9_
      clear hb hbox hg
      refine hK.out _ _ ⟨(blk_cell BK255.out 0).trans rfl, (blk_cell BK255.out 1).trans rfl, (blk_cell BK255.out 2).trans rfl⟩ (fun hHeld => ?_)
      clear hK K
      refine norm_ (a' := ?_) ?_ ?_
      rotate_left
      ·show Act.put _ (some 5) _ = _
       simp only [Act.put, List.setIfInBounds_toArray, List.set_cons_zero, List.set_cons_succ, i64_w, i32_w]
       rfl
      refine one_ (i := 7) (N := some 21) (bA 11 767) rfl rfl (one_of HT_.out (by kernel_rfl)) (by decide) (fun K hK => ?_)
      refine Kd.R_make_step (Kd.int .u8) _ 5 (by rfl) (N := 21) rfl 22 _ _ rfl (l0_2.length : Int) rfl rfl Try.underlying22 (.int .u8 0) 1 info5 rfl (by decide) (by omega) 0 (ok := fun _ => True) (okp := fun _ => True) rfl (fun _ hk => hk) trivial (of_decide_eq_true (by first | (with_reducible assumption) | assumption)) (Nat.le_trans (Nat.mul_le_mul_right _ (of_decide_eq_true (by first | (with_reducible assumption) | assumption) : (l0_2.length : Int).toNat ≤ 281474976710656)) (by omega)) (Below.refl _ _) (Nat.le_refl _) ?_
      intro v259 w13 ho14 hb hg_ hnew_
      clear hg_ hnew_
      (first | rw [← Ny258.out] at ho14 | (simp only [Int.reduceToNat] at ho14; rw [← Ny258.out] at ho14))
      have n0_ := Aside0.mk (Kd.R_lower ho14 (below_size (hb3 HB GE255 GE256 GE261)))
      have n1_ := Aside0.mk (blk_below (bkx BK255) hb)
      have n2_ := Aside0.mk (blk_below (bkx BK256) hb)
      have n3_ := Aside0.mk (blk_below (bkx BK261) hb)
      have n4_ := Aside0.mk (below_step (hb3 HB GE255 GE256 GE261) hb)
      clear BK255
      clear BK256
      clear BK261
      clear HB
      have HO260 := n0_
      have BK255 := n1_
      have BK256 := n2_
      have BK261 := n3_
      have HB := n4_
      clear n0_ n1_ n2_ n3_ n4_
      clear hb ho14
      obtain ⟨Ao15, co15, eo15⟩ := Kd.R_slice HO260.out
      (first | subst eo15 | (injection eo15 with f1_ f2_ f3_; have f4_ := f1_.symm; have f5_ := f3_.symm; clear f1_ f2_ f3_; subst f4_; subst f5_))
      refine hK.out _ _ ⟨(blk_cell BK255.out 0).trans rfl, (blk_cell BK255.out 1).trans rfl, (blk_cell BK255.out 2).trans rfl⟩ (fun hHeld => ?_)
      clear hK K
      refine norm_ (a' := ?_) ?_ ?_
      rotate_left
      ·show Act.put _ (some 21) _ = _
       simp only [Act.put, List.setIfInBounds_toArray, List.set_cons_zero, List.set_cons_succ, i64_w, i32_w]
       rfl
      refine pt HT_ 8 22 ?_
      exact norm_ (by simp only [putAll, Act.put, List.setIfInBounds_toArray, List.set_cons_zero, List.set_cons_succ]) (hCont (.slice Ao15 y258.length co15, gb261) _ ⟨hHeld, (rkx HO260), (bkx BK255), (bkx BK256), (bkx BK261), GW261.out, GE261.out, NB255_261.out, NB261_255.out, NB256_261.out, NB261_256.out, (hb3 HB GE255 GE256 GE261)⟩)
    rintro ⟨v259, gb261⟩ w16 ⟨hS_, h0_, h1_, h2_, h3_, h4_, h5_, h6_, h7_, h8_, h9_, h10_⟩
    have n0_ : Aside0 (Kd.R (Kd.int .u8) 5 w16 w.heap.size (fun _ => True) v259 y258) := ⟨h0_⟩
    have n1_ : Aside0 (w16.heap[gb255]? = some (.cells #[.int .i64 a0_0, .int .i64 a0_1, .slice A0_2 l0_2.length c0_2] 33 (0, 0))) := ⟨h1_⟩
    have n2_ : Aside0 (w16.heap[gb256]? = some (.cells #[.int .i64 0, .int .i64 0, .slice none 0 0] 24 (0, 0))) := ⟨h2_⟩
    have n3_ : Aside0 (w16.heap[gb261]? = some (.cells #[.int .i64 0, .int .i64 0, .slice none 0 0] 24 (0, 0))) := ⟨h3_⟩
    have n4_ : Aside0 (w.heap.size ≤ gb261) := ⟨h4_⟩
    have n5_ : Aside0 (w.heap.size ≤ gb261) := ⟨h5_⟩
    have n6_ : Aside0 (gb255 ≠ gb261) := ⟨h6_⟩
    have n7_ : Aside0 (gb261 ≠ gb255) := ⟨h7_⟩
    have n8_ : Aside0 (gb256 ≠ gb261) := ⟨h8_⟩
    have n9_ : Aside0 (gb261 ≠ gb256) := ⟨h9_⟩
    have n10_ : Aside0 (Below w.heap.size w w16) := ⟨h10_⟩
    clear BK255
    clear BK256
    clear HB
    clear h0_ h1_ h2_ h3_ h4_ h5_ h6_ h7_ h8_ h9_ h10_
    have HO260 := n0_
    have BK255 := n1_
    have BK256 := n2_
    have BK261 := n3_
    have GW261 := n4_
    have GE261 := n5_
    have NB255_261 := n6_
    have NB261_255 := n7_
    have NB256_261 := n8_
    have NB261_256 := n9_
    have HB := n10_
    clear n0_ n1_ n2_ n3_ n4_ n5_ n6_ n7_ n8_ n9_ n10_
    have hHeld : w16.cell? ⟨gb255, 0, none⟩ = some (.int .i64 a0_0) ∧ w16.cell? ⟨gb255, 1, none⟩ = some (.int .i64 a0_1) ∧ w16.cell? ⟨gb255, 2, none⟩ = some (.slice A0_2 l0_2.length c0_2) := hS_
    obtain ⟨Ao17, co17, eo17⟩ := Kd.R_slice HO260.out
    (first | subst eo17 | (injection eo17 with f1_ f2_ f3_; have f4_ := f1_.symm; have f5_ := f3_.symm; clear f1_ f2_ f3_; subst f4_; subst f5_))
    refine norm_ (a' := ?_) ?_ ?_
    rotate_left
    ·simp only [putAll, Act.put, List.setIfInBounds_toArray, List.set_cons_zero, List.set_cons_succ]
     rfl
    refine one_ (i := 10) (N := none) (bA 11 2047) rfl rfl (one_of HT_.out (by kernel_rfl)) (by decide) (fun K hK => ?_)
    have hs18 : w16.cell? ⟨gb261, 0, none⟩ = some (.int .i64 0) := (blk_cell BK261.out 0).trans rfl
    have hfs18 := blk_frozen BK261.out 0
    have hns18_0 := NB255_261.out
    have hns18_1 := NB256_261.out
    have hms18_0 := NB261_255.out
    have hms18_1 := NB261_256.out
    have hs19 : w16.cell? ⟨gb261, 1, none⟩ = some (.int .i64 0) := (blk_cell BK261.out 1).trans rfl
    have hfs19 := blk_frozen BK261.out 1
    have hns19_0 := NB255_261.out
    have hns19_1 := NB256_261.out
    have hms19_0 := NB261_255.out
    have hms19_1 := NB261_256.out
    have hs20 : w16.cell? ⟨gb261, 2, none⟩ = some (.slice none 0 0) := (blk_cell BK261.out 2).trans rfl
    have hfs20 := blk_frozen BK261.out 2
    have hns20_0 := NB255_261.out
    have hns20_1 := NB256_261.out
    have hms20_0 := NB261_255.out
    have hms20_1 := NB261_256.out
    refine skip_ (w1 := ?_) (by rfl) rfl ?_ ?_
    rotate_left
    ·go_simp
     rfl
    refine hK.out _ _ ⟨((cell_far (p := ⟨gb261, _, none⟩) NB255_261.out _).trans (((cell_far (p := ⟨gb261, _, none⟩) NB255_261.out _).trans (((cell_far (p := ⟨gb261, _, none⟩) NB255_261.out _).trans (hHeld.1)))))), ((cell_far (p := ⟨gb261, _, none⟩) NB255_261.out _).trans (((cell_far (p := ⟨gb261, _, none⟩) NB255_261.out _).trans (((cell_far (p := ⟨gb261, _, none⟩) NB255_261.out _).trans (hHeld.2.1)))))), ((cell_far (p := ⟨gb261, _, none⟩) NB255_261.out _).trans (((cell_far (p := ⟨gb261, _, none⟩) NB255_261.out _).trans (((cell_far (p := ⟨gb261, _, none⟩) NB255_261.out _).trans (hHeld.2.2))))))⟩ (fun hHeld => ?_)
    clear hK K
    refine done_ (done_of HT_.out (by kernel_rfl)) ?_
    have hnb21 := NB255_261.out
    have hnc21 := NB261_255.out
    have hcz22_0 : w16.cell? ⟨gb255, 0, none⟩ = some (.int .i64 a0_0) := (blk_cell BK255.out 0).trans rfl
    have hcz22_1 : w16.cell? ⟨gb255, 1, none⟩ = some (.int .i64 a0_1) := (blk_cell BK255.out 1).trans rfl
    have hcz22_2 : w16.cell? ⟨gb255, 2, none⟩ = some (.slice A0_2 l0_2.length c0_2) := (blk_cell BK255.out 2).trans rfl
    have hfz22_0 := blk_frozen BK255.out 0
    have hfz22_1 := blk_frozen BK255.out 1
    have hfz22_2 := blk_frozen BK255.out 2
    try go_wp2
    go_loopg [26] k (fun kq v26 w' => ∃ (x26_1 : Int) (x262002_1 : List Int) (u262002 : Value), v26 = .int .i64 x26_1 ∧ Aside0 (raster_Gray.l0 kq l0_2 (l0_2.length : Int) x26_1 a0_0 a0_1 x262002_1 = some (r1, r2, r3, r4)) ∧ Aside0 (kq ≤ k) ∧ Aside0 (Kd.R (Kd.int .u8) 5 w' w.heap.size (fun _ => True) u262002 x262002_1) ∧ Aside0 (w'.heap[gb255]? = some (.cells #[.int .i64 a0_0, .int .i64 a0_1, (.slice A0_2 l0_2.length c0_2)] 33 (0, 0))) ∧ Aside0 (w'.heap[gb256]? = some (.cells #[.int .i64 0, .int .i64 0, (.slice none 0 0)] 24 (0, 0))) ∧ Aside0 (w'.heap[gb261]? = some (.cells #[.int .i64 a0_0, .int .i64 a0_1, u262002] 24 (0, 0))) ∧ Aside0 (Below w.heap.size w w'))
    case atStart => exact ⟨(0), (y258), (.slice Ao17 y258.length co17), (by first | rfl | (simp; done) | (simp [*]; done)), H', ⟨Nat.le_refl _⟩, ⟨by refine rkt ?_; exact Kd.R_mono (Kd.R_far (p := ⟨gb261, 2, none⟩) (Kd.R_far (p := ⟨gb261, 1, none⟩) (Kd.R_far (p := ⟨gb261, 0, none⟩) (Kd.R_types HO260.out BK261.out (by decide)) (fun _ hk => hk.2) (.int .i64 a0_0)) (fun _ hk => hk.2) (.int .i64 a0_1)) (fun _ hk => hk.2) (.slice Ao17 y258.length co17)) (fun _ hk => trivial)⟩, ⟨bky BK255 NB255_261⟩, ⟨bky BK256 NB256_261⟩, ⟨by refine bkt ?_; refine blk_put (cs := #[.int .i64 a0_0, .int .i64 a0_1, .slice none 0 0]) ?_ 2 _ rfl; refine bkt ?_; refine blk_put (cs := #[.int .i64 a0_0, .int .i64 0, .slice none 0 0]) ?_ 1 _ rfl; refine bkt ?_; refine blk_put (cs := #[.int .i64 0, .int .i64 0, .slice none 0 0]) ?_ 0 _ rfl; refine bkt ?_; exact BK261.out⟩, ⟨hb3 HB GE255 GE256 GE261⟩⟩
    case round =>
     clear H'
     (try clear c1); (try clear c2); (try clear p2); (try clear c3); (try clear c3b0); (try clear c3b1); (try clear c4); (try clear c4b0); (try clear c4b1); (try clear c5); (try clear c5b0); (try clear c5b1); (try clear c8); (try clear c17); (try clear c21); (try clear hcz22_0); (try clear hcz22_1); (try clear hcz22_2); (try clear hcz9_0); (try clear hcz9_1); (try clear hcz9_2); (try clear hfz22_0); (try clear hfz22_1); (try clear hfz22_2); (try clear hfz9_0); (try clear hfz9_1); (try clear hfz9_2)
     obtain ⟨x26_1, x262002_1, u262002, rfl, HA, HK1, HO_262002, BK255, BK256, BK261, HB⟩ := hrel
     cases gk with
     | zero => exact absurd HA.out (by simp [raster_Gray.l0])
     | succ k1 =>
      have H := HA.out
      clear HA
      simp only [raster_Gray.l0] at H
      by_cases c23 : x26_1 < (l0_2.length : Int)
      ·rw [if_pos c23] at H
       have c23b0 : decide (x26_1 < (l0_2.length : Int)) = true := decide_eq_true c23
       clear c23
       by_cases c24 : 0 ≤ x26_1
       ·rw [if_pos c24] at H
        have c24b0 : decide (0 ≤ x26_1) = true := decide_eq_true c24
        clear c24
        by_cases c25 : x26_1 < (l0_2.length : Int)
        ·rw [if_pos c25] at H
         have c25b0 : decide (x26_1 < (l0_2.length : Int)) = true := decide_eq_true c25
         clear c25
         obtain ⟨bq26, hbq26⟩ : ∃ b_ : Bool, b_ = (rdOf false l0_2 x26_1) := ⟨_, rfl⟩
         replace H : (if bq26 = true then (raster_Gray.l0 k1 l0_2 (l0_2.length : Int) (wrap64 (x26_1 + 1)) a0_0 a0_1 x262002_1) else (if x26_1 < (x262002_1.length : Int) then (raster_Gray.l0 k1 l0_2 (l0_2.length : Int) (wrap64 (x26_1 + 1)) a0_0 a0_1 (x262002_1.set (x26_1 : Int).toNat 255)) else (none))) = some (r1, r2, r3, r4) := by rw [← hbq26] at H; exact H
         have Nbq26 := Aside0.mk hbq26
         clear hbq26
         by_cases c27 : bq26 = true
         ·subst c27
          have H1 : (raster_Gray.l0 k1 l0_2 (l0_2.length : Int) (wrap64 (x26_1 + 1)) a0_0 a0_1 x262002_1) = some (r1, r2, r3, r4) := by rw [if_pos rfl] at H; exact H
          clear H
          have H := H1
          clear H1
          have H' := Aside0.mk H
          clear H
          have p262 : 0 ≤ (x26_1 : Int) := of_decide_eq_true (by first | (with_reducible assumption) | assumption)
          have q262 : x26_1 < (l0_2.length : Int) := of_decide_eq_true (by first | (with_reducible assumption) | assumption)
          obtain ⟨ad262, e262, hx262_0⟩ := Kd.at_bool HR0_2.out x26_1 p262 q262
          (try rw [← Nbq26.out] at hx262_0)
          cases e262
          replace hx262_0 := (HB.out.cell (World.block_lt_of_cell? w _ hx262_0)).trans hx262_0
          replace p262 := eq_true p262
          replace q262 := eq_true q262
          go_wp2
          go_roundg k1
          case measure => have := HK1.out; omega
          case rel => exact ⟨(wrap64 (x26_1 + 1)), (x262002_1), (u262002), (by first | rfl | (simp; done) | (simp [*]; done)), H', ⟨by have := HK1.out; omega⟩, ⟨rkx HO_262002⟩, ⟨bkx BK255⟩, ⟨bkx BK256⟩, ⟨bkx BK261⟩, ⟨hb3 HB GE255 GE256 GE261⟩⟩
         ·replace c27 := Bool.eq_false_iff.mpr c27
          subst c27
          have H1 : (if x26_1 < (x262002_1.length : Int) then (raster_Gray.l0 k1 l0_2 (l0_2.length : Int) (wrap64 (x26_1 + 1)) a0_0 a0_1 (x262002_1.set (x26_1 : Int).toNat 255)) else (none)) = some (r1, r2, r3, r4) := by rw [if_neg (show ¬ (false = true) by decide)] at H; exact H
          clear H
          have H := H1
          clear H1
          by_cases c28 : x26_1 < (x262002_1.length : Int)
          ·rw [if_pos c28] at H
           have c28b0 : decide (x26_1 < (x262002_1.length : Int)) = true := decide_eq_true c28
           clear c28
           obtain ⟨y263, hy263⟩ : ∃ y_ : List Int, y_ = (x262002_1.set (x26_1 : Int).toNat 255) := ⟨_, rfl⟩
           replace H : (raster_Gray.l0 k1 l0_2 (l0_2.length : Int) (wrap64 (x26_1 + 1)) a0_0 a0_1 y263) = some (r1, r2, r3, r4) := by first | (rw [hy263]; with_reducible exact H) | (have H2_ := (Option.bind_some _ _).symm.trans H; rw [hy263]; with_reducible exact H2_) | (have H2_ := (Option.bind_some _ _).symm.trans H; with_reducible exact H2_) | with_reducible exact H | (rw [hy263]; exact H) | exact H
           have Ny263 := Aside0.mk hy263
           clear hy263
           have H' := Aside0.mk H
           clear H
           have p262 : 0 ≤ (x26_1 : Int) := of_decide_eq_true (by first | (with_reducible assumption) | assumption)
           have q262 : x26_1 < (l0_2.length : Int) := of_decide_eq_true (by first | (with_reducible assumption) | assumption)
           obtain ⟨ad262, e262, hx262_0⟩ := Kd.at_bool HR0_2.out x26_1 p262 q262
           (try rw [← Nbq26.out] at hx262_0)
           cases e262
           replace hx262_0 := (HB.out.cell (World.block_lt_of_cell? w _ hx262_0)).trans hx262_0
           replace p262 := eq_true p262
           replace q262 := eq_true q262
           have hnb30 := NB261_255.out
           have hnc30 := NB255_261.out
           have hnb31 := NB261_256.out
           have hnc31 := NB256_261.out
           have hcz32_0 : wr.cell? ⟨gb261, 0, none⟩ = some (.int .i64 a0_0) := (blk_cell BK261.out 0).trans rfl
           have hcz32_1 : wr.cell? ⟨gb261, 1, none⟩ = some (.int .i64 a0_1) := (blk_cell BK261.out 1).trans rfl
           have hcz32_2 : wr.cell? ⟨gb261, 2, none⟩ = some (u262002) := (blk_cell BK261.out 2).trans rfl
           have hfz32_0 := blk_frozen BK261.out 0
           have hfz32_1 := blk_frozen BK261.out 1
           have hfz32_2 := blk_frozen BK261.out 2
           have p29 : 0 ≤ (x26_1 : Int) := of_decide_eq_true (by first | (with_reducible assumption) | assumption)
           have q29 : (x26_1 : Int) < ((x262002_1.length : Int) : Int) := of_decide_eq_true (by first | (with_reducible assumption) | assumption)
           obtain ⟨go29, co29, eo29, gb29, gl29, cl29, HG29⟩ := Kd.R_form HO_262002.out (by omega)
           (first | cases eo29 | (injection eo29 with ea_ en_ ec_; (first | subst ea_ | (injection ea_ with ea_; subst ea_)); subst ec_; clear en_))
           have GB29 := Aside0.mk gb29
           have GG29 := Aside0.mk HG29
           clear gb29 gl29 HG29
           obtain ⟨hx29_0, hf29_0⟩ := Kd.R_celln 0 HO_262002.out (x26_1 : Int) p29 q29
           replace p29 := eq_true p29
           replace q29 := eq_true q29
           have HP33 := Kd.R_putg HO_262002.out (x26_1 : Int) 255
           go_wp2_with (first | ((with_reducible refine gate_store (t := 5) (p := 36) rfl ?_); refine store_event (t := 5) (p := 36) (v := ?vo_w34) (w1 := (wr.setCell ⟨go29, (x26_1 : Int).toNat, none⟩ (.int .u8 255))) ?hg ?ho ?hn ?hr ?_; (case ho => rfl); (case hg => rfl); (case hn => rfl); (case hr => first | (go_simp; done) | (go_simp; rfl)); intro w34 hw; have hg : wr.grownBy w34 (some go29) := (by rw [hw]; exact HP33.2); have hp_ : Kd.R (Kd.int .u8) 5 w34 w.heap.size (fun _ => True) (.slice (some ⟨go29, 0, none⟩) x262002_1.length co29) y263 := (by rw [hw, Ny263.out]; exact HP33.1); clear HP33; have n0_ := Aside0.mk (hp_); have n1_ := Aside0.mk (blk_grown (g := gb255) (o := .cells #[.int .i64 a0_0, .int .i64 a0_1, .slice (some ad262) l0_2.length c0_2] 33 (0, 0)) (bkx BK255) hg (Kd.R_ne HO_262002.out BK255.out (by decide))); have n2_ := Aside0.mk (blk_grown (g := gb256) (o := .cells #[.int .i64 0, .int .i64 0, .slice none 0 0] 24 (0, 0)) (bkx BK256) hg (Kd.R_ne HO_262002.out BK256.out (by decide))); have n3_ := Aside0.mk (blk_grown (g := gb261) (o := .cells #[.int .i64 a0_0, .int .i64 a0_1, .slice (some ⟨go29, 0, none⟩) x262002_1.length co29] 24 (0, 0)) (bkx BK261) hg (Kd.R_ne HO_262002.out BK261.out (by decide))); have n4_ := Aside0.mk ((by rw [hw]; exact below_set (HB.out) GB29.out : Below w.heap.size w w34)); clear HO_262002; clear BK255; clear BK256; clear BK261; clear HB; have HO_262002 := n0_; have BK255 := n1_; have BK256 := n2_; have BK261 := n3_; have HB := n4_; clear n0_ n1_ n2_ n3_ n4_; clear hg hw hp_))
           go_roundg k1
           case measure => have := HK1.out; omega
           case rel => exact ⟨(wrap64 (x26_1 + 1)), (y263), (.slice (some ⟨go29, 0, none⟩) x262002_1.length co29), (by first | rfl | (simp; done) | (simp [*]; done)), H', ⟨by have := HK1.out; omega⟩, ⟨rkx HO_262002⟩, ⟨bkx BK255⟩, ⟨bkx BK256⟩, ⟨bkx BK261⟩, ⟨hb3 HB GE255 GE256 GE261⟩⟩
          ·rw [if_neg c28] at H
           exact absurd H (by simp)
        ·rw [if_neg c25] at H
         exact absurd H (by simp)
       ·rw [if_neg c24] at H
        exact absurd H (by simp)
      ·rw [if_neg c23] at H
       have c23b0 : decide (x26_1 < (l0_2.length : Int)) = false := decide_eq_false c23
       clear c23
       simp only [Option.some.injEq, Prod.mk.injEq] at H
       obtain ⟨rfl, rfl, rfl, rfl⟩ := H
       have hnb35 := NB261_255.out
       have hnc35 := NB255_261.out
       have hnb36 := NB261_256.out
       have hnc36 := NB256_261.out
       have hcz37_0 : wr.cell? ⟨gb261, 0, none⟩ = some (.int .i64 a0_0) := (blk_cell BK261.out 0).trans rfl
       have hcz37_1 : wr.cell? ⟨gb261, 1, none⟩ = some (.int .i64 a0_1) := (blk_cell BK261.out 1).trans rfl
       have hcz37_2 : wr.cell? ⟨gb261, 2, none⟩ = some (u262002) := (blk_cell BK261.out 2).trans rfl
       have hfz37_0 := blk_frozen BK261.out 0
       have hfz37_1 := blk_frozen BK261.out 1
       have hfz37_2 := blk_frozen BK261.out 2
       have hnb38 := NB256_255.out
       have hnc38 := NB255_256.out
       have hcz39_0 : wr.cell? ⟨gb256, 0, none⟩ = some (.int .i64 0) := (blk_cell BK256.out 0).trans rfl
       have hcz39_1 : wr.cell? ⟨gb256, 1, none⟩ = some (.int .i64 0) := (blk_cell BK256.out 1).trans rfl
       have hcz39_2 : wr.cell? ⟨gb256, 2, none⟩ = some (.slice none 0 0) := (blk_cell BK256.out 2).trans rfl
       have hfz39_0 := blk_frozen BK256.out 0
       have hfz39_1 := blk_frozen BK256.out 1
       have hfz39_2 := blk_frozen BK256.out 2
       obtain ⟨Ao40, co40, eo40⟩ := Kd.R_slice HO_262002.out
       subst eo40
       go_wp2
       refine bodyPost_ret (results_ct rfl _ _ gb256 24 #[.int .i64 a0_0, .int .i64 a0_1, .slice Ao40 x262002_1.length co40] (0, 0) _ rfl (by refine bkt ?_; refine blk_put (cs := #[.int .i64 a0_0, .int .i64 a0_1, .slice none 0 0]) ?_ 2 _ rfl; refine bkt ?_; refine blk_put (cs := #[.int .i64 a0_0, .int .i64 0, .slice none 0 0]) ?_ 1 _ rfl; refine bkt ?_; refine blk_put (cs := #[.int .i64 0, .int .i64 0, .slice none 0 0]) ?_ 0 _ rfl; refine bkt ?_; exact BK256.out) Try.underlying24 rfl (by kernel_rfl)) rfl ?_
       exact ⟨_, by first | rfl | (simp [errW_none, errW_some] <;> rfl) | (simp [*, errW_none, errW_some] <;> rfl), by refine rkt ?_; exact Kd.R_mono (Kd.R_far (p := ⟨gb256, 2, none⟩) (Kd.R_far (p := ⟨gb256, 1, none⟩) (Kd.R_far (p := ⟨gb256, 0, none⟩) (Kd.R_types HO_262002.out BK256.out (by decide)) (fun _ hk => hk.2) (.int .i64 a0_0)) (fun _ hk => hk.2) (.int .i64 a0_1)) (fun _ hk => hk.2) (.slice Ao40 x262002_1.length co40)) (fun _ hk => trivial), by repeat (first | (with_reducible first | exact HB.out | apply below_alloc | apply pw_below_drewN | apply below_drew1 | refine below_set ?_ GE255.out | refine below_set ?_ GE256.out | refine below_set ?_ GE261.out) | exact HB.out)⟩
   ·rw [if_neg c5] at H
    exact absurd H (by simp)
  ·rw [if_neg c4] at H
   exact absurd H (by simp)
 ·rw [if_neg c3] at H
  have c3b0 : (t257 == 0) = false := beq_eq_false_iff_ne.mpr c3
  have c3b1 : (t257 != 0) = true := bne_iff_ne.mpr c3
  simp only [Option.some.injEq, Prod.mk.injEq] at H
  obtain ⟨rfl, rfl, rfl, rfl⟩ := H
  go_enter Try.func17, Try.ntmps17
  go_wp2_with (first | ((with_reducible refine gate_dst (N := 1) rfl ?_); refine box_event ?hg (N := 1) ?hd (cs := #[.int .i64 a0_0, .int .i64 a0_1, .slice A0_2 l0_2.length c0_2]) (t := 33) ?hr ?_; (case hd => rfl); (case hg => rfl); (case hr => first | (go_simp; done) | (go_simp; rfl)); intro gb255 hg w41 hbox hb; have n0_ := Aside0.mk (below_step (hb0 HB) hb); have n1_ := Aside0.mk (hbox); have n2_ := Aside0.mk ((by rw [hg]; exact (below_size (hb0 HB)) : w.heap.size ≤ gb255)); have n3_ := Aside0.mk ((by rw [hg]; exact (below_size (hb0 HB)) : w.heap.size ≤ gb255)); clear HB; have HB := n0_; have BK255 := n1_; have GW255 := n2_; have GE255 := n3_; clear n0_ n1_ n2_ n3_; clear hb hbox hg) | ((with_reducible refine gate_dst (N := 2) rfl ?_); refine box_event ?hg (N := 2) ?hd (cs := #[.int .i64 0, .int .i64 0, .slice none 0 0]) (t := 24) ?hr ?_; (case hd => rfl); (case hg => rfl); (case hr => first | (go_simp; done) | (go_simp; rfl)); intro gb256 hg w42 hbox hb; have n0_ := Aside0.mk (blk_below (bkx BK255) hb); have n1_ := Aside0.mk (below_step (hb1 HB GE255) hb); have n2_ := Aside0.mk (hbox); have n3_ := Aside0.mk ((by rw [hg]; exact (below_size (hb1 HB GE255)) : w.heap.size ≤ gb256)); have n4_ := Aside0.mk ((by rw [hg]; exact (below_size (hb1 HB GE255)) : w.heap.size ≤ gb256)); have n5_ := Aside0.mk (nel hg BK255 : gb255 ≠ gb256); have n6_ := Aside0.mk (neg hg BK255 : gb256 ≠ gb255); clear BK255; clear HB; have BK255 := n0_; have HB := n1_; have BK256 := n2_; have GW256 := n3_; have GE256 := n4_; have NB255_256 := n5_; have NB256_255 := n6_; clear n0_ n1_ n2_ n3_ n4_ n5_ n6_; clear hb hbox hg; have hnb43 := NB255_256.out; have hnc43 := NB256_255.out; have hcz44_0 : w42.cell? ⟨gb255, 0, none⟩ = some (.int .i64 a0_0) := (blk_cell BK255.out 0).trans rfl; have hcz44_1 : w42.cell? ⟨gb255, 1, none⟩ = some (.int .i64 a0_1) := (blk_cell BK255.out 1).trans rfl; have hcz44_2 : w42.cell? ⟨gb255, 2, none⟩ = some (.slice A0_2 l0_2.length c0_2) := (blk_cell BK255.out 2).trans rfl; have hfz44_0 := blk_frozen BK255.out 0; have hfz44_1 := blk_frozen BK255.out 1; have hfz44_2 := blk_frozen BK255.out 2) | ((with_reducible refine gate_callee (f := 35) rfl ?_); refine goesL_ (some 9) rfl rfl Try.func35 (by kernel_rfl) rfl #[.agg #[.int .i64 a0_0, .int .i64 a0_1, .slice A0_2 l0_2.length c0_2]] rfl mapx ?_; (with_reducible refine (raster_Check.calls a0_0 a0_1 _ _ l0_2 t257 _ ?side1 ?side2 A2.out).mono ?_); (case side1 => repeat (first | exact (Kd.C_below HR0_2.out HB.out) | (with_reducible refine Kd.C_alloc ?_ _) | (with_reducible refine Kd.C_drewN ?_ _) | (with_reducible refine Kd.C_drew ?_))); (case side2 => exact HC0_2.out); rintro e w45 ⟨rfl, hb⟩; refine ⟨_, rfl, ?_⟩; have n0_ := Aside0.mk (blk_below (bkx BK255) hb); have n1_ := Aside0.mk (blk_below (bkx BK256) hb); have n2_ := Aside0.mk (below_step (hb2 HB GE255 GE256) hb); clear BK255; clear BK256; clear HB; have BK255 := n0_; have BK256 := n1_; have HB := n2_; clear n0_ n1_ n2_; (try clear hb); (try clear hb2); (try clear hk); (try clear hi); have hcz46_0 : w45.cell? ⟨gb256, 0, none⟩ = some (.int .i64 0) := (blk_cell BK256.out 0).trans rfl; have hcz46_1 : w45.cell? ⟨gb256, 1, none⟩ = some (.int .i64 0) := (blk_cell BK256.out 1).trans rfl; have hcz46_2 : w45.cell? ⟨gb256, 2, none⟩ = some (.slice none 0 0) := (blk_cell BK256.out 2).trans rfl; have hfz46_0 := blk_frozen BK256.out 0; have hfz46_1 := blk_frozen BK256.out 1; have hfz46_2 := blk_frozen BK256.out 2))
  refine bodyPost_ret (results_ct rfl _ _ gb256 24 #[.int .i64 0, .int .i64 0, .slice none 0 0] (0, 0) _ rfl (by refine bkt ?_; refine blk_put (cs := #[.int .i64 0, .int .i64 0, .slice none 0 0]) ?_ 2 _ rfl; refine bkt ?_; refine blk_put (cs := #[.int .i64 0, .int .i64 0, .slice none 0 0]) ?_ 1 _ rfl; refine bkt ?_; refine blk_put (cs := #[.int .i64 0, .int .i64 0, .slice none 0 0]) ?_ 0 _ rfl; refine bkt ?_; exact BK256.out) Try.underlying24 rfl (by kernel_rfl)) rfl ?_
  exact ⟨_, by first | rfl | (simp [errW_none, errW_some] <;> rfl) | (simp [*, errW_none, errW_some] <;> rfl), by first | exact Kd.R_nil _ _ _ _ _ | exact Kd.N_nil _ _ _ _ _ | exact Kd.V_nil _ _ _ _ _ | exact Kd.Q_nil _ _ _ _ _ | exact Kd.S_nil _ _ _ _ _, by repeat (first | (with_reducible first | exact HB.out | apply below_alloc | apply pw_below_drewN | apply below_drew1 | refine below_set ?_ GE255.out | refine below_set ?_ GE256.out) | exact HB.out)⟩

-- NOT PRINTED: function 36 (printing_degradations)

end Go.Proofs.Ytbipbbckfmilfaa.PR
