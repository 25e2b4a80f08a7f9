-- Written by this session's own program (myprint.py).
import Derived.Test.YtghfcdgdbdeomaaPRx0
import Derived.Test.YtghfcdgdbdeomaaPRx13
import Derived.Test.YtghfcdgdbdeomaaPRx14
namespace Go.Proofs.Ytghfcdgdbdeomaa.PR
open Go.RowKit Go.Proofs.YtghfcdgdbdeomaaW.PrintWords Go.Proofs.YtghfcdgdbdeomaaW.PrintLast Go.Proofs.YtghfcdgdbdeomaaW.PrintMore Go.Proofs.Ytghfcdgdbdeomaa.XWords Go.Proofs.Ytghfcdgdbdeomaa.XShort
attribute [local go_sem] max2_int min2_int max_two min_two max_three min_three max_four min_four   -- for this text's walks alone
set_option linter.unusedVariables false
set_option linter.unusedSimpArgs false

/-! ### barscanref47_Draw: function 13 -/
mutual
def barscanref47_Draw.l0 : Nat → ByteArray → Int → Int → Int → Int → Int → List Bool → Option (Int × Int × List Bool × Int)
 | 0, _, _, _, _, _, _, _ => none
 | k + 1, x0, x1, x6, x9, x280000, x280001, x280002 => if x9 < (x0.size : Int) then (if 0 ≤ x9 then ((barscanref47_Glyph.f k (bt x0 x9)).bind fun bt280 => (barscanref47_Draw.l1 k x0 x1 x6 x9 0 x280000 x280001 x280002 bt280.1 bt280.2.1 bt280.2.2.1)) else (none)) else (some (x280000, x280001, x280002, 0))
def barscanref47_Draw.l1 : Nat → ByteArray → Int → Int → Int → Int → Int → Int → List Bool → Int → Int → List Bool → Option (Int × Int × List Bool × Int)
 | 0, _, _, _, _, _, _, _, _, _, _, _ => none
 | k + 1, x0, x1, x6, x9, x12, x280000, x280001, x280002, x287000, x287001, x287002 => if x12 < (wrap64 (7 * x1)) then (barscanref47_Draw.l2 k x0 x1 x6 x9 x12 0 x280000 x280001 x280002 x287000 x287001 x287002) else (barscanref47_Draw.l0 k x0 x1 x6 (wrap64 (x9 + 1)) x280000 x280001 x280002)
def barscanref47_Draw.l2 : Nat → ByteArray → Int → Int → Int → Int → Int → Int → Int → List Bool → Int → Int → List Bool → Option (Int × Int × List Bool × Int)
 | 0, _, _, _, _, _, _, _, _, _, _, _, _ => none
 | k + 1, x0, x1, x6, x9, x12, x13, x280000, x280001, x280002, x287000, x287001, x287002 => if x13 < (wrap64 (5 * x1)) then (if x1 = 0 then (none) else (if 0 ≤ (wrap64 ((wrap64 ((wrap64 (Int.tdiv x12 x1)) * 5)) + (wrap64 (Int.tdiv x13 x1)))) then (if (wrap64 ((wrap64 ((wrap64 (Int.tdiv x12 x1)) * 5)) + (wrap64 (Int.tdiv x13 x1)))) < (x287002.length : Int) then (if 0 ≤ (wrap64 ((wrap64 ((wrap64 (x12 * x6)) + (wrap64 ((wrap64 (6 * x9)) * x1)))) + x13)) then (if (wrap64 ((wrap64 ((wrap64 (x12 * x6)) + (wrap64 ((wrap64 (6 * x9)) * x1)))) + x13)) < (x280002.length : Int) then (barscanref47_Draw.l2 k x0 x1 x6 x9 x12 (wrap64 (x13 + 1)) x280000 x280001 (x280002.set ((wrap64 ((wrap64 ((wrap64 (x12 * x6)) + (wrap64 ((wrap64 (6 * x9)) * x1)))) + x13)) : Int).toNat (rdOf false x287002 (wrap64 ((wrap64 ((wrap64 (Int.tdiv x12 x1)) * 5)) + (wrap64 (Int.tdiv x13 x1)))))) x287000 x287001 x287002) else (none)) else (none)) else (none)) else (none))) else (barscanref47_Draw.l1 k x0 x1 x6 x9 (wrap64 (x12 + 1)) x280000 x280001 x280002 x287000 x287001 x287002)
end
def barscanref47_Draw.f (k : Nat) (a0 : ByteArray) (a1 : Int) : Option (Int × Int × List Bool × Int) := (barscanref47_Width.f k a0 a1).bind fun bt274 => (if bt274.2 = 0 then (if 0 ≤ (wrap64 ((wrap64 (bt274.1 * 7)) * a1)) then (if (wrap64 ((wrap64 (bt274.1 * 7)) * a1) : Int).toNat ≤ 281474976710656 then (barscanref47_Draw.l0 k a0 a1 bt274.1 0 bt274.1 (wrap64 (7 * a1)) (List.replicate (wrap64 ((wrap64 (bt274.1 * 7)) * a1) : Int).toNat false)) else (none)) else (none)) else (some (0, 0, ([] : List Bool), bt274.2)))
theorem barscanref47_Draw.mono_l : ∀ k, (∀ y0 y1 y2 y3 y4 y5 y6, LeO (barscanref47_Draw.l0 k y0 y1 y2 y3 y4 y5 y6) (barscanref47_Draw.l0 (k + 1) y0 y1 y2 y3 y4 y5 y6)) ∧ (∀ y0 y1 y2 y3 y4 y5 y6 y7 y8 y9 y10, LeO (barscanref47_Draw.l1 k y0 y1 y2 y3 y4 y5 y6 y7 y8 y9 y10) (barscanref47_Draw.l1 (k + 1) y0 y1 y2 y3 y4 y5 y6 y7 y8 y9 y10)) ∧ (∀ y0 y1 y2 y3 y4 y5 y6 y7 y8 y9 y10 y11, LeO (barscanref47_Draw.l2 k y0 y1 y2 y3 y4 y5 y6 y7 y8 y9 y10 y11) (barscanref47_Draw.l2 (k + 1) y0 y1 y2 y3 y4 y5 y6 y7 y8 y9 y10 y11))
 | 0 => ⟨fun _ _ _ _ _ _ _ r h => by simp [barscanref47_Draw.l0] at h, fun _ _ _ _ _ _ _ _ _ _ _ r h => by simp [barscanref47_Draw.l1] at h, fun _ _ _ _ _ _ _ _ _ _ _ _ r h => by simp [barscanref47_Draw.l2] at h⟩
 | k + 1 => by
  obtain ⟨ih0, ih1, ih2⟩ := barscanref47_Draw.mono_l k
  refine ⟨?_, ?_, ?_⟩
  ·intro y0 y1 y2 y3 y4 y5 y6
   unfold barscanref47_Draw.l0
   repeat' first
   | (with_reducible exact ih0 _ _ _ _ _ _ _)
   | (with_reducible exact ih1 _ _ _ _ _ _ _ _ _ _ _)
   | (with_reducible exact ih2 _ _ _ _ _ _ _ _ _ _ _ _)
   | (with_reducible exact barscanref47_Glyph.mono _ _)
   | (with_reducible exact barscanref47_Width.mono _ _ _)
   | (with_reducible exact LeO.refl _)
   | (with_reducible exact LeO.none _)
   | (with_reducible refine LeO.ite ?_ ?_)
   | (with_reducible refine LeO.bind ?_ (fun _ => ?_))
   | exact ih0 _ _ _ _ _ _ _
   | exact ih1 _ _ _ _ _ _ _ _ _ _ _
   | exact ih2 _ _ _ _ _ _ _ _ _ _ _ _
   | exact barscanref47_Glyph.mono _ _
   | exact barscanref47_Width.mono _ _ _
   | exact LeO.none _
   | refine LeO.ite ?_ ?_
   | refine LeO.bind ?_ (fun _ => ?_)
  ·intro y0 y1 y2 y3 y4 y5 y6 y7 y8 y9 y10
   unfold barscanref47_Draw.l1
   repeat' first
   | (with_reducible exact ih0 _ _ _ _ _ _ _)
   | (with_reducible exact ih1 _ _ _ _ _ _ _ _ _ _ _)
   | (with_reducible exact ih2 _ _ _ _ _ _ _ _ _ _ _ _)
   | (with_reducible exact barscanref47_Glyph.mono _ _)
   | (with_reducible exact barscanref47_Width.mono _ _ _)
   | (with_reducible exact LeO.refl _)
   | (with_reducible exact LeO.none _)
   | (with_reducible refine LeO.ite ?_ ?_)
   | (with_reducible refine LeO.bind ?_ (fun _ => ?_))
   | exact ih0 _ _ _ _ _ _ _
   | exact ih1 _ _ _ _ _ _ _ _ _ _ _
   | exact ih2 _ _ _ _ _ _ _ _ _ _ _ _
   | exact barscanref47_Glyph.mono _ _
   | exact barscanref47_Width.mono _ _ _
   | exact LeO.none _
   | refine LeO.ite ?_ ?_
   | refine LeO.bind ?_ (fun _ => ?_)
  ·intro y0 y1 y2 y3 y4 y5 y6 y7 y8 y9 y10 y11
   unfold barscanref47_Draw.l2
   repeat' first
   | (with_reducible exact ih0 _ _ _ _ _ _ _)
   | (with_reducible exact ih1 _ _ _ _ _ _ _ _ _ _ _)
   | (with_reducible exact ih2 _ _ _ _ _ _ _ _ _ _ _ _)
   | (with_reducible exact barscanref47_Glyph.mono _ _)
   | (with_reducible exact barscanref47_Width.mono _ _ _)
   | (with_reducible exact LeO.refl _)
   | (with_reducible exact LeO.none _)
   | (with_reducible refine LeO.ite ?_ ?_)
   | (with_reducible refine LeO.bind ?_ (fun _ => ?_))
   | exact ih0 _ _ _ _ _ _ _
   | exact ih1 _ _ _ _ _ _ _ _ _ _ _
   | exact ih2 _ _ _ _ _ _ _ _ _ _ _ _
   | exact barscanref47_Glyph.mono _ _
   | exact barscanref47_Width.mono _ _ _
   | exact LeO.none _
   | refine LeO.ite ?_ ?_
   | refine LeO.bind ?_ (fun _ => ?_)
theorem barscanref47_Draw.mono : ∀ a0 a1 k, LeO (barscanref47_Draw.f k a0 a1) (barscanref47_Draw.f (k + 1) a0 a1) := by
 intro a0 a1 k
 obtain ⟨ih0, ih1, ih2⟩ := barscanref47_Draw.mono_l k
 unfold barscanref47_Draw.f
 repeat' first
   | (with_reducible exact ih0 _ _ _ _ _ _ _)
   | (with_reducible exact ih1 _ _ _ _ _ _ _ _ _ _ _)
   | (with_reducible exact ih2 _ _ _ _ _ _ _ _ _ _ _ _)
   | (with_reducible exact barscanref47_Glyph.mono _ _)
   | (with_reducible exact barscanref47_Width.mono _ _ _)
   | (with_reducible exact LeO.refl _)
   | (with_reducible exact LeO.none _)
   | (with_reducible refine LeO.ite ?_ ?_)
   | (with_reducible refine LeO.bind ?_ (fun _ => ?_))
   | exact ih0 _ _ _ _ _ _ _
   | exact ih1 _ _ _ _ _ _ _ _ _ _ _
   | exact ih2 _ _ _ _ _ _ _ _ _ _ _ _
   | exact barscanref47_Glyph.mono _ _
   | exact barscanref47_Width.mono _ _ _
   | exact LeO.none _
   | refine LeO.ite ?_ ?_
   | refine LeO.bind ?_ (fun _ => ?_)
def barscanref47_Draw.T15 : Bool × List (List Nat × List Nat) := (true, [([], []), ([0], [0]), ([], []), ([], []), ([2, 3], [2, 3]), ([], []), ([5], [5]), ([], []), ([6, 7], [6, 7]), ([4, 8], [4, 8]), ([], []), ([9, 10], [9, 10]), ([], []), ([12], [12]), ([], []), ([], []), ([14, 15], [14, 15]), ([16], [16]), ([], []), ([], []), ([18, 19], [18, 19]), ([17, 20], [17, 20]), ([13, 21], [13, 21]), ([22], [22]), ([1, 11, 0, 1, 2, 3, 4, 5, 6, 7, 8, 9, 10, 11, 12, 13, 14, 15, 16, 17, 18, 19, 20, 21, 22, 23], [1, 11]), ([24, 23, 0, 1, 2, 3, 4, 5, 6, 7, 8, 9, 10, 11, 12, 13, 14, 15, 16, 17, 18, 19, 20, 21, 22, 23], [23, 24])])
def barscanref47_Draw.B15 : List Nat := [0, 1, 0, 0, 12, 0, 32, 0, 224, 508, 0, 2044, 0, 4096, 0, 0, 49152, 114688, 0, 0, 786432, 2080768, 4190208, 8384512, 16777215, 33554431]
theorem barscanref47_Draw.tab15 : rtab .any (opsOf Try.f13 15) = barscanref47_Draw.T15 := by kernel_rfl
theorem barscanref47_Draw.bits15 : waitsOk barscanref47_Draw.T15.2 barscanref47_Draw.B15 = true := by kernel_rfl
set_option maxHeartbeats 8000000 in
set_option maxRecDepth 100000 in
theorem barscanref47_Draw.calls (k : Nat) (a0 : ByteArray) (a1 : Int) (r1 : Int) (r2 : Int) (r3 : List Bool) (r4 : Int) (w : World) (h : barscanref47_Draw.f k a0 a1 = some (r1, r2, r3, r4)) :
  Calls Try.prog 13 #[.string a0, .int .i64 a1] w fun e w' => ∃ v2_ : Value, e = .returned (.tuple #[.agg #[.int .i64 r1, .int .i64 r2, v2_], .int .i64 r4]) ∧ Kd.R Kd.bool 4 w' w.heap.size (fun _ => True) v2_ r3 ∧ Below w.heap.size w w' := by
 have hu24 := Try.underlying24
 have HB := Aside0.mk (Below.refl w.heap.size w)
 have H : ((barscanref47_Width.f k a0 a1).bind fun bt274 => (if bt274.2 = 0 then (if 0 ≤ (wrap64 ((wrap64 (bt274.1 * 7)) * a1)) then (if (wrap64 ((wrap64 (bt274.1 * 7)) * a1) : Int).toNat ≤ 281474976710656 then (barscanref47_Draw.l0 k a0 a1 bt274.1 0 bt274.1 (wrap64 (7 * a1)) (List.replicate (wrap64 ((wrap64 (bt274.1 * 7)) * a1) : Int).toNat false)) else (none)) else (none)) else (some (0, 0, ([] : List Bool), bt274.2)))) = some (r1, r2, r3, r4) := h
 clear h
 replace H := Option.bind_eq_some_iff.mp H
 obtain ⟨⟨t274, t275⟩, A30, H⟩ := H
 replace H : (if t275 = 0 then (if 0 ≤ (wrap64 ((wrap64 (t274 * 7)) * a1)) then (if (wrap64 ((wrap64 (t274 * 7)) * a1) : Int).toNat ≤ 281474976710656 then (barscanref47_Draw.l0 k a0 a1 t274 0 t274 (wrap64 (7 * a1)) (List.replicate (wrap64 ((wrap64 (t274 * 7)) * a1) : Int).toNat false)) else (none)) else (none)) else (some (0, 0, ([] : List Bool), t275))) = some (r1, r2, r3, r4) := H
 have A3 := Aside0.mk A30
 clear A30
 by_cases c4 : t275 = 0
 ·rw [if_pos c4] at H
  have c4b0 : (t275 == 0) = true := beq_iff_eq.mpr c4
  have c4b1 : (t275 != 0) = false := bne_eq_false_iff_eq.mpr c4
  clear c4
  obtain ⟨ji5, hji5⟩ : ∃ j_ : Int, (wrap64 ((wrap64 (t274 * 7)) * a1)) = j_ := ⟨_, rfl⟩
  replace H : (if 0 ≤ (ji5) then (if (ji5 : Int).toNat ≤ 281474976710656 then (barscanref47_Draw.l0 k a0 a1 t274 0 t274 (wrap64 (7 * a1)) (List.replicate (ji5 : Int).toNat false)) else (none)) else (none)) = some (r1, r2, r3, r4) := by first | (rw [hji5] at H; exact H) | (simp only [hji5] at H ⊢; exact H)
  (try rw [hji5] at A3)
  have hji5w : (IntKind.i64.wrap ((wrap64 (t274 * 7)) * a1)) = ji5 := (i64_w _).trans hji5
  by_cases c6 : 0 ≤ (ji5)
  ·rw [if_pos c6] at H
   have c6b0 := eq_true c6
   have c6b1 : decide (0 ≤ (ji5)) = true := decide_eq_true c6
   clear c6
   by_cases c7 : (ji5 : Int).toNat ≤ 281474976710656
   ·rw [if_pos c7] at H
    have c7b0 := eq_true c7
    have c7b1 : decide ((ji5 : Int).toNat ≤ 281474976710656) = true := decide_eq_true c7
    clear c7
    obtain ⟨y276, hy276⟩ : ∃ y_ : List Bool, y_ = (List.replicate (ji5 : Int).toNat false) := ⟨_, rfl⟩
    replace H : (barscanref47_Draw.l0 k a0 a1 t274 0 t274 (wrap64 (7 * a1)) y276) = some (r1, r2, r3, r4) := by first | (rw [hy276]; with_reducible exact H) | (have H2_ := (Option.bind_some _ _).symm.trans H; rw [hy276]; with_reducible exact H2_) | (have H2_ := (Option.bind_some _ _).symm.trans H; with_reducible exact H2_) | with_reducible exact H | (rw [hy276]; exact H) | exact H
    have Ny276 := Aside0.mk hy276
    clear hy276
    have H' := Aside0.mk H
    clear H
    go_enter Try.func13, Try.ntmps13
    go_wp2_with (first | ((with_reducible refine gate_dst (N := 4) rfl ?_); refine box_event ?hg (N := 4) ?hd (cs := #[.int .i64 0, .int .i64 0, .slice none 0 0]) (t := 24) ?hr ?_; (case hd => rfl); (case hg => rfl); (case hr => first | (go_simp; done) | (go_simp; rfl)); intro gb273 hg w8 hbox hb; have n0_ := Aside0.mk (below_step (hb0 HB) hb); have n1_ := Aside0.mk (hbox); have n2_ := Aside0.mk ((by rw [hg]; exact (below_size (hb0 HB)) : w.heap.size ≤ gb273)); have n3_ := Aside0.mk ((by rw [hg]; exact (below_size (hb0 HB)) : w.heap.size ≤ gb273)); clear HB; have HB := n0_; have BK273 := n1_; have GW273 := n2_; have GE273 := n3_; clear n0_ n1_ n2_ n3_; clear hb hbox hg) | ((with_reducible refine gate_callee (f := 15) rfl ?_); refine goesL_ (some 17) rfl rfl Try.func15 (by kernel_rfl) rfl #[.string a0, .int .i64 a1] rfl mapx ?_; (with_reducible refine (barscanref47_Width.calls k a0 a1 t274 t275 _ A3.out).mono ?_); rintro e w' ⟨rfl, ⟨nd, rfl⟩⟩; refine ⟨_, rfl, ?_⟩; (try (rw [drewN_self w8]; generalize hq_ : World.drewN w8 _ = w8; have n0_ : Aside0 (w8.heap[gb273]? = some (.cells #[.int .i64 0, .int .i64 0, .slice none 0 0] 24 (0, 0))) := ⟨by rw [← hq_]; exact (bkx BK273)⟩; have n1_ : Aside0 (Below w.heap.size w w8) := ⟨by rw [← hq_]; exact (hb1 HB GE273)⟩; clear BK273 HB hq_; have BK273 := n0_; have HB := n1_; clear n0_ n1_))) | ((with_reducible refine gate_dst (N := 31) rfl ?_); refine Kd.R_make Kd.bool _ 4 rfl (N := 31) rfl 22 _ _ rfl ji5 rfl rfl Try.underlying22 (.bool false) 1 info4 rfl (by decide) (by omega) false (ok := fun _ => True) (okp := fun _ => True) rfl (fun _ hk => hk) trivial (of_decide_eq_true (by first | (with_reducible assumption) | assumption)) (Nat.le_trans (Nat.mul_le_mul_right _ (of_decide_eq_true (by first | (with_reducible assumption) | assumption) : ji5.toNat ≤ 281474976710656)) (by omega)) (Below.refl _ _) (Nat.le_refl _) ?_; intro v277 w9 ho10 hb hg_ hnew_; clear hg_ hnew_; (first | rw [← Ny276.out] at ho10 | (simp only [Int.reduceToNat] at ho10; rw [← Ny276.out] at ho10)); have n0_ := Aside0.mk (Kd.R_lower ho10 (below_size (hb1 HB GE273))); have n1_ := Aside0.mk (blk_below (bkx BK273) hb); have n2_ := Aside0.mk (below_step (hb1 HB GE273) hb); clear BK273; clear HB; have HO278 := n0_; have BK273 := n1_; have HB := n2_; clear n0_ n1_ n2_; clear hb ho10; obtain ⟨Ao11, co11, eo11⟩ := Kd.R_slice HO278.out; subst eo11) | ((with_reducible refine gate_dst (N := 8) rfl ?_); refine box_event ?hg (N := 8) ?hd (cs := #[.int .i64 0, .int .i64 0, .slice none 0 0]) (t := 24) ?hr ?_; (case hd => rfl); (case hg => rfl); (case hr => first | (go_simp; done) | (go_simp; rfl)); intro gb279 hg w12 hbox hb; have n0_ := Aside0.mk (Kd.R_below (rkx HO278) hb); have n1_ := Aside0.mk (blk_below (bkx BK273) hb); have n2_ := Aside0.mk (below_step (hb1 HB GE273) hb); have n3_ := Aside0.mk (hbox); have n4_ := Aside0.mk ((by rw [hg]; exact (below_size (hb1 HB GE273)) : w.heap.size ≤ gb279)); have n5_ := Aside0.mk ((by rw [hg]; exact (below_size (hb1 HB GE273)) : w.heap.size ≤ gb279)); have n6_ := Aside0.mk (nel hg BK273 : gb273 ≠ gb279); have n7_ := Aside0.mk (neg hg BK273 : gb279 ≠ gb273); clear HO278; clear BK273; clear HB; have HO278 := n0_; have BK273 := n1_; have HB := n2_; have BK279 := n3_; have GW279 := n4_; have GE279 := n5_; have NB273_279 := n6_; have NB279_273 := n7_; clear n0_ n1_ n2_ n3_ n4_ n5_ n6_ n7_; clear hb hbox hg; have hnb13 := NB279_273.out; have hnc13 := NB273_279.out; have hcz14_0 : w12.cell? ⟨gb279, 0, none⟩ = some (.int .i64 0) := (blk_cell BK279.out 0).trans rfl; have hcz14_1 : w12.cell? ⟨gb279, 1, none⟩ = some (.int .i64 0) := (blk_cell BK279.out 1).trans rfl; have hcz14_2 : w12.cell? ⟨gb279, 2, none⟩ = some (.slice none 0 0) := (blk_cell BK279.out 2).trans rfl; have hfz14_0 := blk_frozen BK279.out 0; have hfz14_1 := blk_frozen BK279.out 1; have hfz14_2 := blk_frozen BK279.out 2))
    go_loopg [9] k (fun kq v9 w' => ∃ (x9_1 : Int) (x280002_1 : List Bool) (u280002 : Value), v9 = .int .i64 x9_1 ∧ Aside0 (barscanref47_Draw.l0 kq a0 a1 t274 x9_1 t274 (wrap64 (7 * a1)) x280002_1 = some (r1, r2, r3, r4)) ∧ Aside0 (kq ≤ k) ∧ Aside0 (Kd.R Kd.bool 4 w' w.heap.size (fun _ => True) u280002 x280002_1) ∧ Aside0 (w'.heap[gb273]? = some (.cells #[.int .i64 0, .int .i64 0, (.slice none 0 0)] 24 (0, 0))) ∧ Aside0 (w'.heap[gb279]? = some (.cells #[.int .i64 t274, .int .i64 (wrap64 (7 * a1)), u280002] 24 (0, 0))) ∧ Aside0 (Below w.heap.size w w'))
    case atStart => exact ⟨(0), (y276), (.slice Ao11 y276.length co11), (by first | rfl | (simp; done) | (simp [*]; done)), H', ⟨Nat.le_refl _⟩, ⟨by refine rkt ?_; exact Kd.R_mono (Kd.R_far (p := ⟨gb279, 2, none⟩) (Kd.R_far (p := ⟨gb279, 1, none⟩) (Kd.R_far (p := ⟨gb279, 0, none⟩) (Kd.R_types HO278.out BK279.out (by decide)) (fun _ hk => hk.2) (.int .i64 t274)) (fun _ hk => hk.2) (.int .i64 (wrap64 (7 * a1)))) (fun _ hk => hk.2) (.slice Ao11 y276.length co11)) (fun _ hk => trivial)⟩, ⟨bky BK273 NB273_279⟩, ⟨by refine bkt ?_; refine blk_put (cs := #[.int .i64 t274, .int .i64 (wrap64 (7 * a1)), .slice none 0 0]) ?_ 2 _ rfl; refine bkt ?_; refine blk_put (cs := #[.int .i64 t274, .int .i64 0, .slice none 0 0]) ?_ 1 _ rfl; refine bkt ?_; refine blk_put (cs := #[.int .i64 0, .int .i64 0, .slice none 0 0]) ?_ 0 _ rfl; refine bkt ?_; exact BK279.out⟩, ⟨hb2 HB GE273 GE279⟩⟩
    case round =>
     clear H'
     try clear c1
     try clear p2
     try clear c4
     try clear c4b0
     try clear c4b1
     try clear c6
     try clear c6b0
     try clear c6b1
     try clear p6
     try clear c7
     try clear c7b0
     try clear c7b1
     try clear c13
     try clear hcz14_0
     try clear hcz14_1
     try clear hcz14_2
     try clear hfz14_0
     try clear hfz14_1
     try clear hfz14_2
     obtain ⟨x9_1, x280002_1, u280002, rfl, HA, HK1, HO_280002, BK273, BK279, HB⟩ := hrel
     cases gk with
     | zero => exact absurd HA.out (by simp [barscanref47_Draw.l0])
     | succ k1 =>
      have H := HA.out
      clear HA
      simp only [barscanref47_Draw.l0] at H
      by_cases c15 : x9_1 < (a0.size : Int)
      ·rw [if_pos c15] at H
       have c15b0 : decide (x9_1 < (a0.size : Int)) = true := decide_eq_true c15
       clear c15
       by_cases c16 : 0 ≤ x9_1
       ·rw [if_pos c16] at H
        have c16b0 : decide (0 ≤ x9_1) = true := decide_eq_true c16
        clear c16
        replace H := Option.bind_eq_some_iff.mp H
        obtain ⟨⟨t280, t281, t282, t285⟩, A180, H⟩ := H
        replace H : (barscanref47_Draw.l1 k1 a0 a1 t274 x9_1 0 t274 (wrap64 (7 * a1)) x280002_1 t280 t281 t282) = some (r1, r2, r3, r4) := H
        have A18 := Aside0.mk A180
        clear A180
        have H' := Aside0.mk H
        clear H
        have p17 : 0 ≤ (x9_1 : Int) := of_decide_eq_true (by first | (with_reducible assumption) | assumption)
        have q17 : x9_1 < (a0.size : Int) := of_decide_eq_true (by first | (with_reducible assumption) | assumption)
        have hx17 := bt_at a0 x9_1
        replace p17 := eq_true p17
        replace q17 := eq_true q17
        go_wp2_with (first | ((with_reducible refine gate_callee (f := 19) rfl ?_); refine goesL_ (some 43) rfl rfl Try.func19 (by kernel_rfl) rfl #[.int .u8 (bt a0 x9_1)] rfl mapx ?_; (with_reducible refine (barscanref47_Glyph.calls k1 (bt a0 x9_1) t280 t281 t282 t285 _ A18.out).mono ?_); rintro e w19 ⟨v283, rfl, ho0, hb⟩; refine ⟨_, rfl, ?_⟩; have n0_ := Aside0.mk (Kd.R_elder' (rkx HO_280002) (Kd.R_base ho0) hb); have n1_ := Aside0.mk (Kd.R_lower (Kd.R_new' ho0 (Kd.R_lt (rkx HO_280002))) (below_size (hb2 HB GE273 GE279))); have n2_ := Aside0.mk (blk_below (bkx BK273) hb); have n3_ := Aside0.mk (blk_below (bkx BK279) hb); have n4_ := Aside0.mk (below_step (hb2 HB GE273 GE279) hb); clear HO_280002; clear BK273; clear BK279; clear HB; have HO_280002 := n0_; have HO284 := n1_; have BK273 := n2_; have BK279 := n3_; have HB := n4_; clear n0_ n1_ n2_ n3_ n4_; (try clear hb); (try clear hb2); (try clear hk); (try clear hi); (try clear ho0)) | ((with_reducible refine gate_dst (N := 10) rfl ?_); refine box_event ?hg (N := 10) ?hd (cs := #[.int .i64 0, .int .i64 0, .slice none 0 0]) (t := 24) ?hr ?_; (case hd => rfl); (case hg => rfl); (case hr => first | (go_simp; done) | (go_simp; rfl)); intro gb286 hg w20 hbox hb; have n0_ := Aside0.mk (Kd.R_below (rkx HO_280002) hb); have n1_ := Aside0.mk (Kd.R_below (rkx HO284) hb); have n2_ := Aside0.mk (blk_below (bkx BK273) hb); have n3_ := Aside0.mk (blk_below (bkx BK279) hb); have n4_ := Aside0.mk (below_step (hb2 HB GE273 GE279) hb); have n5_ := Aside0.mk (hbox); have n6_ := Aside0.mk ((by rw [hg]; exact (below_size (hb2 HB GE273 GE279)) : w.heap.size ≤ gb286)); have n7_ := Aside0.mk ((by rw [hg]; exact (below_size (hb2 HB GE273 GE279)) : w.heap.size ≤ gb286)); have n8_ := Aside0.mk (nel hg BK273 : gb273 ≠ gb286); have n9_ := Aside0.mk (neg hg BK273 : gb286 ≠ gb273); have n10_ := Aside0.mk (nel hg BK279 : gb279 ≠ gb286); have n11_ := Aside0.mk (neg hg BK279 : gb286 ≠ gb279); clear HO_280002; clear HO284; clear BK273; clear BK279; clear HB; have HO_280002 := n0_; have HO284 := n1_; have BK273 := n2_; have BK279 := n3_; have HB := n4_; have BK286 := n5_; have GW286 := n6_; have GE286 := n7_; have NB273_286 := n8_; have NB286_273 := n9_; have NB279_286 := n10_; have NB286_279 := n11_; clear n0_ n1_ n2_ n3_ n4_ n5_ n6_ n7_ n8_ n9_ n10_ n11_; clear hb hbox hg; have hnb21 := NB286_273.out; have hnc21 := NB273_286.out; have hnb22 := NB286_279.out; have hnc22 := NB279_286.out; have hcz23_0 : w20.cell? ⟨gb286, 0, none⟩ = some (.int .i64 0) := (blk_cell BK286.out 0).trans rfl; have hcz23_1 : w20.cell? ⟨gb286, 1, none⟩ = some (.int .i64 0) := (blk_cell BK286.out 1).trans rfl; have hcz23_2 : w20.cell? ⟨gb286, 2, none⟩ = some (.slice none 0 0) := (blk_cell BK286.out 2).trans rfl; have hfz23_0 := blk_frozen BK286.out 0; have hfz23_1 := blk_frozen BK286.out 1; have hfz23_2 := blk_frozen BK286.out 2; obtain ⟨Ao24, co24, eo24⟩ := Kd.R_slice HO284.out; subst eo24))
        go_loopg [12] k1 (fun kq v12 w' => ∃ (x12_2 : Int) (x280002_2 : List Bool) (x287002_2 : List Bool) (u280002 : Value) (u287002 : Value), v12 = .int .i64 x12_2 ∧ Aside0 (barscanref47_Draw.l1 kq a0 a1 t274 x9_1 x12_2 t274 (wrap64 (7 * a1)) x280002_2 t280 t281 x287002_2 = some (r1, r2, r3, r4)) ∧ Aside0 (kq ≤ k1) ∧ Aside0 (Kd.R Kd.bool 4 w' w.heap.size (fun k_ => some k_ ≠ (u287002 : Value).ownBlock) u280002 x280002_2) ∧ Aside0 (Kd.R Kd.bool 4 w' w.heap.size (fun k_ => some k_ ≠ (u280002 : Value).ownBlock) u287002 x287002_2) ∧ Aside0 (w'.heap[gb273]? = some (.cells #[.int .i64 0, .int .i64 0, (.slice none 0 0)] 24 (0, 0))) ∧ Aside0 (w'.heap[gb279]? = some (.cells #[.int .i64 t274, .int .i64 (wrap64 (7 * a1)), u280002] 24 (0, 0))) ∧ Aside0 (w'.heap[gb286]? = some (.cells #[.int .i64 t280, .int .i64 t281, u287002] 24 (0, 0))) ∧ Aside0 (Below w.heap.size w w'))
        case atStart => exact ⟨(0), (x280002_1), (t282), (u280002), (.slice Ao24 t282.length co24), (by first | rfl | (simp; done) | (simp [*]; done)), H', ⟨Nat.le_refl _⟩, ⟨by refine rkt ?_; exact Kd.R_mono (Kd.R_far (p := ⟨gb286, 2, none⟩) (Kd.R_far (p := ⟨gb286, 1, none⟩) (Kd.R_far (p := ⟨gb286, 0, none⟩) (Kd.R_types HO_280002.out BK286.out (by decide)) (fun _ hk => hk.2) (.int .i64 t280)) (fun _ hk => hk.2) (.int .i64 t281)) (fun _ hk => hk.2) (.slice Ao24 t282.length co24)) (fun _ hk => hk.1.2)⟩, ⟨by refine rkt ?_; exact Kd.R_mono (Kd.R_far (p := ⟨gb286, 2, none⟩) (Kd.R_far (p := ⟨gb286, 1, none⟩) (Kd.R_far (p := ⟨gb286, 0, none⟩) (Kd.R_types HO284.out BK286.out (by decide)) (fun _ hk => hk.2) (.int .i64 t280)) (fun _ hk => hk.2) (.int .i64 t281)) (fun _ hk => hk.2) (.slice Ao24 t282.length co24)) (fun _ hk => hk.1.2)⟩, ⟨bky BK273 NB273_286⟩, ⟨bky BK279 NB279_286⟩, ⟨by refine bkt ?_; refine blk_put (cs := #[.int .i64 t280, .int .i64 t281, .slice none 0 0]) ?_ 2 _ rfl; refine bkt ?_; refine blk_put (cs := #[.int .i64 t280, .int .i64 0, .slice none 0 0]) ?_ 1 _ rfl; refine bkt ?_; refine blk_put (cs := #[.int .i64 0, .int .i64 0, .slice none 0 0]) ?_ 0 _ rfl; refine bkt ?_; exact BK286.out⟩, ⟨hb3 HB GE273 GE279 GE286⟩⟩
        case round =>
         clear H'
         try clear c1
         try clear p1
         try clear q1
         try clear hx1
         try clear c2
         try clear p2
         try clear c4
         try clear c4b0
         try clear c4b1
         try clear c6
         try clear c6b0
         try clear c6b1
         try clear p6
         try clear c7
         try clear c7b0
         try clear c7b1
         try clear c13
         try clear c15
         try clear c15b0
         try clear c16
         try clear c16b0
         try clear p17
         try clear q17
         try clear hx17
         try clear c19
         try clear c21
         try clear c22
         try clear hcz14_0
         try clear hcz14_1
         try clear hcz14_2
         try clear hcz23_0
         try clear hcz23_1
         try clear hcz23_2
         try clear hfz14_0
         try clear hfz14_1
         try clear hfz14_2
         try clear hfz23_0
         try clear hfz23_1
         try clear hfz23_2
         try clear p17
         try clear p2
         try clear p6
         try clear q17
         obtain ⟨x12_2, x280002_2, x287002_2, u280002, u287002, rfl, HA, HK2, HO_280002, HO_287002, BK273, BK279, BK286, HB⟩ := hrel
         cases gk with
         | zero => exact absurd HA.out (by simp [barscanref47_Draw.l1])
         | succ k2 =>
          have H := HA.out
          clear HA
          simp only [barscanref47_Draw.l1] at H
          by_cases c25 : x12_2 < (wrap64 (7 * a1))
          ·rw [if_pos c25] at H
           have c25b0 : decide (x12_2 < (wrap64 (7 * a1))) = true := decide_eq_true c25
           clear c25
           have H' := Aside0.mk H
           clear H
           go_wp2
           go_loopg [13] k2 (fun kq v13 w' => ∃ (x13_3 : Int) (x280002_3 : List Bool) (x287002_3 : List Bool) (u280002 : Value) (u287002 : Value), v13 = .int .i64 x13_3 ∧ Aside0 (barscanref47_Draw.l2 kq a0 a1 t274 x9_1 x12_2 x13_3 t274 (wrap64 (7 * a1)) x280002_3 t280 t281 x287002_3 = some (r1, r2, r3, r4)) ∧ Aside0 (kq ≤ k2) ∧ Aside0 (Kd.R Kd.bool 4 w' w.heap.size (fun k_ => some k_ ≠ (u287002 : Value).ownBlock) u280002 x280002_3) ∧ Aside0 (Kd.R Kd.bool 4 w' w.heap.size (fun k_ => some k_ ≠ (u280002 : Value).ownBlock) u287002 x287002_3) ∧ Aside0 (w'.heap[gb273]? = some (.cells #[.int .i64 0, .int .i64 0, (.slice none 0 0)] 24 (0, 0))) ∧ Aside0 (w'.heap[gb279]? = some (.cells #[.int .i64 t274, .int .i64 (wrap64 (7 * a1)), u280002] 24 (0, 0))) ∧ Aside0 (w'.heap[gb286]? = some (.cells #[.int .i64 t280, .int .i64 t281, u287002] 24 (0, 0))) ∧ Aside0 (Below w.heap.size w w'))
           case atStart => exact ⟨(0), (x280002_2), (x287002_2), (u280002), (u287002), (by first | rfl | (simp; done) | (simp [*]; done)), H', ⟨Nat.le_refl _⟩, ⟨rkx HO_280002⟩, ⟨rkx HO_287002⟩, ⟨bkx BK273⟩, ⟨bkx BK279⟩, ⟨bkx BK286⟩, ⟨hb3 HB GE273 GE279 GE286⟩⟩
           case round =>
            clear H'
            try clear c1
            try clear p1
            try clear q1
            try clear hx1
            try clear c2
            try clear p2
            try clear c4
            try clear c4b0
            try clear c4b1
            try clear c6
            try clear c6b0
            try clear c6b1
            try clear p6
            try clear c7
            try clear c7b0
            try clear c7b1
            try clear c13
            try clear c15
            try clear c15b0
            try clear c16
            try clear c16b0
            try clear p17
            try clear q17
            try clear hx17
            try clear c19
            try clear c21
            try clear c22
            try clear c25
            try clear c25b0
            try clear hcz14_0
            try clear hcz14_1
            try clear hcz14_2
            try clear hcz23_0
            try clear hcz23_1
            try clear hcz23_2
            try clear hfz14_0
            try clear hfz14_1
            try clear hfz14_2
            try clear hfz23_0
            try clear hfz23_1
            try clear hfz23_2
            try clear p1
            try clear p17
            try clear p2
            try clear p6
            try clear q1
            try clear q17
            obtain ⟨x13_3, x280002_3, x287002_3, u280002, u287002, rfl, HA, HK3, HO_280002, HO_287002, BK273, BK279, BK286, HB⟩ := hrel
            cases gk with
            | zero => exact absurd HA.out (by simp [barscanref47_Draw.l2])
            | succ k3 =>
             have H := HA.out
             clear HA
             simp only [barscanref47_Draw.l2] at H
             by_cases c26 : x13_3 < (wrap64 (5 * a1))
             ·rw [if_pos c26] at H
              have c26b0 : decide (x13_3 < (wrap64 (5 * a1))) = true := decide_eq_true c26
              clear c26
              by_cases c27 : a1 = 0
              ·rw [if_pos c27] at H
               exact absurd H (by simp)
              ·rw [if_neg c27] at H
               have c27b0 : (a1 == 0) = false := beq_eq_false_iff_ne.mpr c27
               have c27b1 : (a1 != 0) = true := bne_iff_ne.mpr c27
               obtain ⟨ji28, hji28⟩ : ∃ j_ : Int, (wrap64 ((wrap64 ((wrap64 (Int.tdiv x12_2 a1)) * 5)) + (wrap64 (Int.tdiv x13_3 a1)))) = j_ := ⟨_, rfl⟩
               replace H : (if 0 ≤ (ji28) then (if (ji28) < (x287002_3.length : Int) then (if 0 ≤ (wrap64 ((wrap64 ((wrap64 (x12_2 * t274)) + (wrap64 ((wrap64 (6 * x9_1)) * a1)))) + x13_3)) then (if (wrap64 ((wrap64 ((wrap64 (x12_2 * t274)) + (wrap64 ((wrap64 (6 * x9_1)) * a1)))) + x13_3)) < (x280002_3.length : Int) then (barscanref47_Draw.l2 k3 a0 a1 t274 x9_1 x12_2 (wrap64 (x13_3 + 1)) t274 (wrap64 (7 * a1)) (x280002_3.set ((wrap64 ((wrap64 ((wrap64 (x12_2 * t274)) + (wrap64 ((wrap64 (6 * x9_1)) * a1)))) + x13_3)) : Int).toNat (rdOf false x287002_3 (ji28))) t280 t281 x287002_3) else (none)) else (none)) else (none)) else (none)) = some (r1, r2, r3, r4) := by first | (rw [hji28] at H; exact H) | (simp only [hji28] at H ⊢; exact H)
               have hji28w : (IntKind.i64.wrap ((wrap64 ((wrap64 (Int.tdiv x12_2 a1)) * 5)) + (wrap64 (Int.tdiv x13_3 a1)))) = ji28 := (i64_w _).trans hji28
               by_cases c29 : 0 ≤ (ji28)
               ·rw [if_pos c29] at H
                have c29b0 : decide (0 ≤ (ji28)) = true := decide_eq_true c29
                clear c29
                by_cases c30 : (ji28) < (x287002_3.length : Int)
                ·rw [if_pos c30] at H
                 have c30b0 : decide ((ji28) < (x287002_3.length : Int)) = true := decide_eq_true c30
                 clear c30
                 obtain ⟨ji31, hji31⟩ : ∃ j_ : Int, (wrap64 ((wrap64 ((wrap64 (x12_2 * t274)) + (wrap64 ((wrap64 (6 * x9_1)) * a1)))) + x13_3)) = j_ := ⟨_, rfl⟩
                 replace H : (if 0 ≤ (ji31) then (if (ji31) < (x280002_3.length : Int) then (barscanref47_Draw.l2 k3 a0 a1 t274 x9_1 x12_2 (wrap64 (x13_3 + 1)) t274 (wrap64 (7 * a1)) (x280002_3.set ((ji31) : Int).toNat (rdOf false x287002_3 (ji28))) t280 t281 x287002_3) else (none)) else (none)) = some (r1, r2, r3, r4) := by first | (rw [hji31] at H; exact H) | (simp only [hji31] at H ⊢; exact H)
                 have hji31w : (IntKind.i64.wrap ((wrap64 ((wrap64 (x12_2 * t274)) + (wrap64 ((wrap64 (6 * x9_1)) * a1)))) + x13_3)) = ji31 := (i64_w _).trans hji31
                 by_cases c32 : 0 ≤ (ji31)
                 ·rw [if_pos c32] at H
                  have c32b0 : decide (0 ≤ (ji31)) = true := decide_eq_true c32
                  clear c32
                  by_cases c33 : (ji31) < (x280002_3.length : Int)
                  ·rw [if_pos c33] at H
                   have c33b0 : decide ((ji31) < (x280002_3.length : Int)) = true := decide_eq_true c33
                   clear c33
                   obtain ⟨y288, hy288⟩ : ∃ y_ : List Bool, y_ = (x280002_3.set ((ji31) : Int).toNat (rdOf false x287002_3 (ji28))) := ⟨_, rfl⟩
                   replace H : (barscanref47_Draw.l2 k3 a0 a1 t274 x9_1 x12_2 (wrap64 (x13_3 + 1)) t274 (wrap64 (7 * a1)) y288 t280 t281 x287002_3) = some (r1, r2, r3, r4) := by first | (rw [hy288]; with_reducible exact H) | (have H2_ := (Option.bind_some _ _).symm.trans H; rw [hy288]; with_reducible exact H2_) | (have H2_ := (Option.bind_some _ _).symm.trans H; with_reducible exact H2_) | with_reducible exact H | (rw [hy288]; exact H) | exact H
                   have Ny288 := Aside0.mk hy288
                   clear hy288
                   have H' := Aside0.mk H
                   clear H
                   try go_wp2
                   have n0_ := Aside0.mk (Kd.R_drew HO_280002.out)
                   have n1_ := Aside0.mk (Kd.R_drew HO_287002.out)
                   have n2_ := Aside0.mk (blk_drew BK273.out)
                   have n3_ := Aside0.mk (blk_drew BK279.out)
                   have n4_ := Aside0.mk (blk_drew BK286.out)
                   have n5_ := Aside0.mk (below_drew1 HB.out)
                   clear HO_280002
                   clear HO_287002
                   clear BK273
                   clear BK279
                   clear BK286
                   clear HB
                   have HO_280002 := n0_
                   have HO_287002 := n1_
                   have BK273 := n2_
                   have BK279 := n3_
                   have BK286 := n4_
                   have HB := n5_
                   clear n0_ n1_ n2_ n3_ n4_ n5_
                   obtain ⟨Ao36, co36, eo36⟩ := Kd.R_slice HO_287002.out
                   (first | subst eo36 | (injection eo36 with f1_ f2_ f3_; have f4_ := f1_.symm; have f5_ := f3_.symm; clear f1_ f2_ f3_; subst f4_; subst f5_))
                   have p287 : 0 ≤ ((ji28) : Int) := of_decide_eq_true (by first | (with_reducible assumption) | assumption)
                   have q287 : (ji28) < (x287002_3.length : Int) := of_decide_eq_true (by first | (with_reducible assumption) | assumption)
                   obtain ⟨ad287, e287, hx287_0⟩ := Kd.at_bool (Kd.R_reads' HO_287002.out).2.2 (ji28) p287 q287
                   cases e287
                   replace p287 := eq_true p287
                   replace q287 := eq_true q287
                   have p34 : 0 ≤ ((ji31) : Int) := of_decide_eq_true (by first | (with_reducible assumption) | assumption)
                   have q34 : ((ji31) : Int) < ((x280002_3.length : Int) : Int) := of_decide_eq_true (by first | (with_reducible assumption) | assumption)
                   obtain ⟨go34, co34, eo34, gb34, gl34, cl34, HG34⟩ := Kd.R_form HO_280002.out (by omega)
                   (first | cases eo34 | (injection eo34 with ea_ en_ ec_; (first | subst ea_ | (injection ea_ with ea_; subst ea_)); subst ec_; clear en_))
                   have GB34 := Aside0.mk gb34
                   have GG34 := Aside0.mk HG34
                   clear gb34 gl34 HG34
                   obtain ⟨hx34_0, hf34_0⟩ := Kd.R_celln false HO_280002.out ((ji31) : Int) p34 q34
                   replace p34 := eq_true p34
                   replace q34 := eq_true q34
                   have HP37 := Kd.R_putn HO_280002.out ((ji31) : Int) (rdOf false x287002_3 (ji28))
                   rw [← Ny288.out] at HP37
                   have HQ37 := Aside0.mk HP37
                   clear HP37
                   refine start_ (n := 26) (S := fun w' => w'.cell? ⟨gb279, 0, none⟩ = some (.int .i64 t274) ∧ w'.cell? ⟨gb279, 1, none⟩ = some (.int .i64 (wrap64 (7 * a1))) ∧ w'.cell? ⟨gb279, 2, none⟩ = some (.slice (some ⟨go34, 0, none⟩) x280002_3.length co34) ∧ w'.cell? ⟨gb286, 0, none⟩ = some (.int .i64 t280) ∧ w'.cell? ⟨gb286, 1, none⟩ = some (.int .i64 t281) ∧ w'.cell? ⟨gb286, 2, none⟩ = some (.slice (some ad287) x287002_3.length co36) ∧ w'.cell? (ad287.add ((ji28)).toNat) = some (.bool (rdOf false x287002_3 (ji28)))) (ds := [25]) (bA 26 0) (by kernel_rfl) rfl rfl ⟨(blk_cell BK279.out 0).trans rfl, (blk_cell BK279.out 1).trans rfl, (blk_cell BK279.out 2).trans rfl, (blk_cell BK286.out 0).trans rfl, (blk_cell BK286.out 1).trans rfl, (blk_cell BK286.out 2).trans rfl, hx287_0⟩ (fun hHeld => ?_); refine with_tabW barscanref47_Draw.tab15 barscanref47_Draw.bits15 (fun HT_ HW_ => ?_)
                   generalize wr.drew = w35 at HO_280002 HO_287002 BK273 BK279 BK286 HB GG34 HQ37 hf34_0 hx287_0 hx34_0 hHeld ⊢
                   refine pt HT_ 0 58 ?_
                   refine pt HT_ 2 60 ?_
                   refine pt HT_ 3 61 ?_
                   refine pt HT_ 4 62 ?_
                   refine pt HT_ 5 63 ?_
                   refine pt HT_ 6 64 ?_
                   refine pt HT_ 7 65 ?_
                   refine pt HT_ 8 66 ?_
                   refine pt HT_ 9 67 ?_
                   refine pt HT_ 10 68 ?_
                   refine pt HT_ 11 69 ?_
                   refine pt HT_ 12 70 ?_
                   refine pt HT_ 14 72 ?_
                   refine pt HT_ 15 73 ?_
                   refine pt HT_ 16 74 ?_
                   refine pt HT_ 17 75 ?_
                   refine pt HT_ 18 76 ?_
                   refine pt HT_ 19 77 ?_
                   refine pt HT_ 20 78 ?_
                   refine pt HT_ 21 79 ?_
                   refine tk HT_ HW_ hHeld 1 59 ?_
                   refine tk HT_ HW_ hHeld 13 71 ?_
                   refine pt HT_ 22 80 ?_
                   refine tk HT_ HW_ hHeld 23 81 ?_
                   refine pt HT_ 24 82 ?_
                   refine last_ (i := 25) (N := none) (bA 26 67108863) rfl rfl (one_of HT_.out (by kernel_rfl)) (by decide) (fun K hK => ?_)
                   refine skip_ (w1 := ?_) (by rfl) rfl ?_ ?_
                   rotate_left
                   ·go_simp
                    rfl
                   refine hK.out _ _ ?_
                   clear hK K
                   refine done_ (done_of HT_.out (by kernel_rfl)) ?_
                   try go_wp2
                   go_roundg k3
                   case measure => have := HK1.out; have := HK2.out; have := HK3.out; omega
                   case rel => exact ⟨(wrap64 (x13_3 + 1)), (y288), (x287002_3), (.slice (some ⟨go34, 0, none⟩) x280002_3.length co34), (.slice (some ad287) x287002_3.length co36), (by first | rfl | (simp; done) | (simp [*]; done)), H', ⟨by have := HK1.out; have := HK2.out; have := HK3.out; omega⟩, ⟨rkx HQ37⟩, ⟨by refine rkt ?_; exact Kd.R_mono (Kd.R_far (p := ⟨go34, ((ji31) : Int).toNat, none⟩) (Kd.R_mono HO_287002.out (fun k_ hk => (⟨hk, fun e_ => hk (by rw [e_]; rfl)⟩ : _ ∧ k_ ≠ go34))) (fun _ hk => hk.2) (.bool (rdOf false x287002_3 (ji28)))) (fun _ hk => hk.1)⟩, ⟨by refine bkt ?_; refine blk_far ?_ (by have h_ := Kd.R_ne HO_280002.out BK273.out (by decide); intro e_; exact h_ (by rw [e_]; rfl)) _; refine bkt ?_; exact BK273.out⟩, ⟨by refine bkt ?_; refine blk_far ?_ (by have h_ := Kd.R_ne HO_280002.out BK279.out (by decide); intro e_; exact h_ (by rw [e_]; rfl)) _; refine bkt ?_; exact BK279.out⟩, ⟨by refine bkt ?_; refine blk_far ?_ (by have h_ := Kd.R_ne HO_280002.out BK286.out (by decide); intro e_; exact h_ (by rw [e_]; rfl)) _; refine bkt ?_; exact BK286.out⟩, ⟨hb4 HB GB34 GE273 GE279 GE286⟩⟩
                  ·rw [if_neg c33] at H
                   exact absurd H (by simp)
                 ·rw [if_neg c32] at H
                  exact absurd H (by simp)
                ·rw [if_neg c30] at H
                 exact absurd H (by simp)
               ·rw [if_neg c29] at H
                exact absurd H (by simp)
             ·rw [if_neg c26] at H
              have c26b0 : decide (x13_3 < (wrap64 (5 * a1))) = false := decide_eq_false c26
              clear c26
              have H' := Aside0.mk H
              clear H
              go_wp2
              go_roundg k3
              case measure => have := HK1.out; have := HK2.out; have := HK3.out; omega
              case rel => exact ⟨(wrap64 (x12_2 + 1)), (x280002_3), (x287002_3), (u280002), (u287002), (by first | rfl | (simp; done) | (simp [*]; done)), H', ⟨by have := HK1.out; have := HK2.out; have := HK3.out; omega⟩, ⟨rkx HO_280002⟩, ⟨rkx HO_287002⟩, ⟨bkx BK273⟩, ⟨bkx BK279⟩, ⟨bkx BK286⟩, ⟨hb3 HB GE273 GE279 GE286⟩⟩
          ·rw [if_neg c25] at H
           have c25b0 : decide (x12_2 < (wrap64 (7 * a1))) = false := decide_eq_false c25
           clear c25
           have H' := Aside0.mk H
           clear H
           go_wp2
           go_roundg k2
           case measure => have := HK1.out; have := HK2.out; omega
           case rel => exact ⟨(wrap64 (x9_1 + 1)), (x280002_2), (u280002), (by first | rfl | (simp; done) | (simp [*]; done)), H', ⟨by have := HK1.out; have := HK2.out; omega⟩, ⟨by refine rkt ?_; exact Kd.R_mono HO_280002.out (fun _ hk => trivial)⟩, ⟨bkx BK273⟩, ⟨bkx BK279⟩, ⟨hb3 HB GE273 GE279 GE286⟩⟩
       ·rw [if_neg c16] at H
        exact absurd H (by simp)
      ·rw [if_neg c15] at H
       have c15b0 : decide (x9_1 < (a0.size : Int)) = false := decide_eq_false c15
       clear c15
       simp only [Option.some.injEq, Prod.mk.injEq] at H
       obtain ⟨rfl, rfl, rfl, rfl⟩ := H
       have hnb38 := NB279_273.out
       have hnc38 := NB273_279.out
       have hcz39_0 : wr.cell? ⟨gb279, 0, none⟩ = some (.int .i64 t274) := (blk_cell BK279.out 0).trans rfl
       have hcz39_1 : wr.cell? ⟨gb279, 1, none⟩ = some (.int .i64 (wrap64 (7 * a1))) := (blk_cell BK279.out 1).trans rfl
       have hcz39_2 : wr.cell? ⟨gb279, 2, none⟩ = some (u280002) := (blk_cell BK279.out 2).trans rfl
       have hfz39_0 := blk_frozen BK279.out 0
       have hfz39_1 := blk_frozen BK279.out 1
       have hfz39_2 := blk_frozen BK279.out 2
       have hcz40_0 : wr.cell? ⟨gb273, 0, none⟩ = some (.int .i64 0) := (blk_cell BK273.out 0).trans rfl
       have hcz40_1 : wr.cell? ⟨gb273, 1, none⟩ = some (.int .i64 0) := (blk_cell BK273.out 1).trans rfl
       have hcz40_2 : wr.cell? ⟨gb273, 2, none⟩ = some (.slice none 0 0) := (blk_cell BK273.out 2).trans rfl
       have hfz40_0 := blk_frozen BK273.out 0
       have hfz40_1 := blk_frozen BK273.out 1
       have hfz40_2 := blk_frozen BK273.out 2
       obtain ⟨Ao41, co41, eo41⟩ := Kd.R_slice HO_280002.out
       subst eo41
       go_wp2
       refine bodyPost_ret (results_ct rfl _ _ gb273 24 #[.int .i64 t274, .int .i64 (wrap64 (7 * a1)), .slice Ao41 x280002_1.length co41] (0, 0) _ rfl (by refine bkt ?_; refine blk_put (cs := #[.int .i64 t274, .int .i64 (wrap64 (7 * a1)), .slice none 0 0]) ?_ 2 _ rfl; refine bkt ?_; refine blk_put (cs := #[.int .i64 t274, .int .i64 0, .slice none 0 0]) ?_ 1 _ rfl; refine bkt ?_; refine blk_put (cs := #[.int .i64 0, .int .i64 0, .slice none 0 0]) ?_ 0 _ rfl; refine bkt ?_; exact BK273.out) Try.underlying24 rfl (by kernel_rfl)) rfl ?_
       exact ⟨_, by first | rfl | (simp [errW_none, errW_some] <;> rfl) | (simp only [← hji5]; first | rfl | (simp [errW_none, errW_some] <;> rfl)) | (simp [*, errW_none, errW_some] <;> rfl), by refine rkt ?_; exact Kd.R_mono (Kd.R_far (p := ⟨gb273, 2, none⟩) (Kd.R_far (p := ⟨gb273, 1, none⟩) (Kd.R_far (p := ⟨gb273, 0, none⟩) (Kd.R_types HO_280002.out BK273.out (by decide)) (fun _ hk => hk.2) (.int .i64 t274)) (fun _ hk => hk.2) (.int .i64 (wrap64 (7 * a1)))) (fun _ hk => hk.2) (.slice Ao41 x280002_1.length co41)) (fun _ hk => trivial), by repeat (first | (with_reducible first | exact HB.out | apply below_alloc | apply pw_below_drewN | apply below_drew1 | refine below_set ?_ GE273.out | refine below_set ?_ GE279.out) | exact HB.out)⟩
   ·rw [if_neg c7] at H
    exact absurd H (by simp)
  ·rw [if_neg c6] at H
   exact absurd H (by simp)
 ·rw [if_neg c4] at H
  have c4b0 : (t275 == 0) = false := beq_eq_false_iff_ne.mpr c4
  have c4b1 : (t275 != 0) = true := bne_iff_ne.mpr c4
  simp only [Option.some.injEq, Prod.mk.injEq] at H
  obtain ⟨rfl, rfl, rfl, rfl⟩ := H
  go_enter Try.func13, Try.ntmps13
  go_wp2_with (first | ((with_reducible refine gate_dst (N := 4) rfl ?_); refine box_event ?hg (N := 4) ?hd (cs := #[.int .i64 0, .int .i64 0, .slice none 0 0]) (t := 24) ?hr ?_; (case hd => rfl); (case hg => rfl); (case hr => first | (go_simp; done) | (go_simp; rfl)); intro gb273 hg w42 hbox hb; have n0_ := Aside0.mk (below_step (hb0 HB) hb); have n1_ := Aside0.mk (hbox); have n2_ := Aside0.mk ((by rw [hg]; exact (below_size (hb0 HB)) : w.heap.size ≤ gb273)); have n3_ := Aside0.mk ((by rw [hg]; exact (below_size (hb0 HB)) : w.heap.size ≤ gb273)); clear HB; have HB := n0_; have BK273 := n1_; have GW273 := n2_; have GE273 := n3_; clear n0_ n1_ n2_ n3_; clear hb hbox hg) | ((with_reducible refine gate_callee (f := 15) rfl ?_); refine goesL_ (some 17) rfl rfl Try.func15 (by kernel_rfl) rfl #[.string a0, .int .i64 a1] rfl mapx ?_; (with_reducible refine (barscanref47_Width.calls k a0 a1 t274 t275 _ A3.out).mono ?_); rintro e w' ⟨rfl, ⟨nd, rfl⟩⟩; refine ⟨_, rfl, ?_⟩; (try (rw [drewN_self w42]; generalize hq_ : World.drewN w42 _ = w42; have n0_ : Aside0 (w42.heap[gb273]? = some (.cells #[.int .i64 0, .int .i64 0, .slice none 0 0] 24 (0, 0))) := ⟨by rw [← hq_]; exact (bkx BK273)⟩; have n1_ : Aside0 (Below w.heap.size w w42) := ⟨by rw [← hq_]; exact (hb1 HB GE273)⟩; clear BK273 HB hq_; have BK273 := n0_; have HB := n1_; clear n0_ n1_)); have hcz43_0 : w42.cell? ⟨gb273, 0, none⟩ = some (.int .i64 0) := (blk_cell BK273.out 0).trans rfl; have hcz43_1 : w42.cell? ⟨gb273, 1, none⟩ = some (.int .i64 0) := (blk_cell BK273.out 1).trans rfl; have hcz43_2 : w42.cell? ⟨gb273, 2, none⟩ = some (.slice none 0 0) := (blk_cell BK273.out 2).trans rfl; have hfz43_0 := blk_frozen BK273.out 0; have hfz43_1 := blk_frozen BK273.out 1; have hfz43_2 := blk_frozen BK273.out 2))
  refine bodyPost_ret (results_ct rfl _ _ gb273 24 #[.int .i64 0, .int .i64 0, .slice none 0 0] (0, 0) _ rfl (by refine bkt ?_; refine blk_put (cs := #[.int .i64 0, .int .i64 0, .slice none 0 0]) ?_ 2 _ rfl; refine bkt ?_; refine blk_put (cs := #[.int .i64 0, .int .i64 0, .slice none 0 0]) ?_ 1 _ rfl; refine bkt ?_; refine blk_put (cs := #[.int .i64 0, .int .i64 0, .slice none 0 0]) ?_ 0 _ rfl; refine bkt ?_; exact BK273.out) Try.underlying24 rfl (by kernel_rfl)) rfl ?_
  exact ⟨_, by first | rfl | (simp [errW_none, errW_some] <;> rfl) | (simp [*, errW_none, errW_some] <;> rfl), by first | exact Kd.R_nil _ _ _ _ _ | exact Kd.N_nil _ _ _ _ _ | exact Kd.V_nil _ _ _ _ _ | exact Kd.Q_nil _ _ _ _ _ | exact Kd.S_nil _ _ _ _ _, by repeat (first | (with_reducible first | exact HB.out | apply below_alloc | apply pw_below_drewN | apply below_drew1 | refine below_set ?_ GE273.out) | exact HB.out)⟩

end Go.Proofs.Ytghfcdgdbdeomaa.PR
