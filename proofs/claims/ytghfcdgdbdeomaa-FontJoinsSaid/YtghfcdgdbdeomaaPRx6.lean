-- Written by this session's own program (myprint.py).
import Derived.Test.YtghfcdgdbdeomaaPRx0
import Derived.Test.YtghfcdgdbdeomaaPRx1
import Derived.Test.YtghfcdgdbdeomaaPRx4
import Derived.Test.YtghfcdgdbdeomaaPRx5
namespace Go.Proofs.Ytghfcdgdbdeomaa.PR
open Go.RowKit Go.Proofs.YtghfcdgdbdeomaaW.PrintWords Go.Proofs.YtghfcdgdbdeomaaW.PrintLast Go.Proofs.YtghfcdgdbdeomaaW.PrintMore Go.Proofs.Ytghfcdgdbdeomaa.XWords Go.Proofs.Ytghfcdgdbdeomaa.XShort
attribute [local go_sem] max2_int min2_int max_two min_two max_three min_three max_four min_four   -- for this text's walks alone
set_option linter.unusedVariables false
set_option linter.unusedSimpArgs false

/-! ### font_Draw: function 12 -/
mutual
def font_Draw.l0 : Nat → Int → Int → Int → List Bool → ByteArray → Int → Option (Int × Int × List Bool × Int)
 | 0, _, _, _, _, _, _ => none
 | k + 1, x1, x164000, x164001, x164002, x165000, x165001 => if 0 ≤ x165001 then (if x165001 < (x165000.size : Int) then ((font_find.f k ((XIter.rn x165000 x165001) % 256)).bind fun bt165 => (font_Draw.l1 k x1 x165001 0 x164000 x164001 x164002 x165000 (XIter.nx x165000 x165001) bt165.1 bt165.2.1)) else ((raster_Enlarge.f k x164000 x164001 x164002 x1).bind fun bt171 => (some (bt171.1, bt171.2.1, bt171.2.2.1, bt171.2.2.2)))) else (none)
def font_Draw.l1 : Nat → Int → Int → Int → Int → Int → List Bool → ByteArray → Int → Int → ByteArray → Option (Int × Int × List Bool × Int)
 | 0, _, _, _, _, _, _, _, _, _, _ => none
 | k + 1, x1, x9, x42, x164000, x164001, x164002, x165000, x165001, x169000, x169001 => if x42 < 7 then (font_Draw.l2 k x1 x9 x42 x42 0 x164000 x164001 x164002 x165000 x165001 x169000 x169001) else (font_Draw.l0 k x1 x164000 x164001 x164002 x165000 x165001)
def font_Draw.l2 : Nat → Int → Int → Int → Int → Int → Int → Int → List Bool → ByteArray → Int → Int → ByteArray → Option (Int × Int × List Bool × Int)
 | 0, _, _, _, _, _, _, _, _, _, _, _, _ => none
 | k + 1, x1, x9, x13, x42, x45, x164000, x164001, x164002, x165000, x165001, x169000, x169001 => if x45 < 5 then ((font_glyph_dark.f x169000 x169001 x45 x13).bind fun t169 => (if 0 ≤ (wrap64 ((wrap64 ((wrap64 (x13 * x164000)) + (wrap64 (6 * x9)))) + x45)) then (if (wrap64 ((wrap64 ((wrap64 (x13 * x164000)) + (wrap64 (6 * x9)))) + x45)) < (x164002.length : Int) then (font_Draw.l2 k x1 x9 x13 x42 (wrap64 (x45 + 1)) x164000 x164001 (x164002.set ((wrap64 ((wrap64 ((wrap64 (x13 * x164000)) + (wrap64 (6 * x9)))) + x45)) : Int).toNat t169) x165000 x165001 x169000 x169001) else (none)) else (none))) else (font_Draw.l1 k x1 x9 (wrap64 (x42 + 1)) x164000 x164001 x164002 x165000 x165001 x169000 x169001)
end
def font_Draw.f (k : Nat) (a0 : ByteArray) (a1 : Int) : Option (Int × Int × List Bool × Int) := (font_check.f k a0 a1).bind fun t156 => (if t156 = 0 then ((raster_New.f (wrap64 ((wrap64 (6 * (a0.size : Int))) - 1)) 7).bind fun bt157 => (font_Draw.l0 k a1 bt157.1 bt157.2.1 bt157.2.2.1 a0 0)) else (some (0, 0, ([] : List Bool), t156)))
theorem font_Draw.mono_l : ∀ k, (∀ y0 y1 y2 y3 y4 y5, LeO (font_Draw.l0 k y0 y1 y2 y3 y4 y5) (font_Draw.l0 (k + 1) y0 y1 y2 y3 y4 y5)) ∧ (∀ y0 y1 y2 y3 y4 y5 y6 y7 y8 y9, LeO (font_Draw.l1 k y0 y1 y2 y3 y4 y5 y6 y7 y8 y9) (font_Draw.l1 (k + 1) y0 y1 y2 y3 y4 y5 y6 y7 y8 y9)) ∧ (∀ y0 y1 y2 y3 y4 y5 y6 y7 y8 y9 y10 y11, LeO (font_Draw.l2 k y0 y1 y2 y3 y4 y5 y6 y7 y8 y9 y10 y11) (font_Draw.l2 (k + 1) y0 y1 y2 y3 y4 y5 y6 y7 y8 y9 y10 y11))
 | 0 => ⟨fun _ _ _ _ _ _ r h => by simp [font_Draw.l0] at h, fun _ _ _ _ _ _ _ _ _ _ r h => by simp [font_Draw.l1] at h, fun _ _ _ _ _ _ _ _ _ _ _ _ r h => by simp [font_Draw.l2] at h⟩
 | k + 1 => by
  obtain ⟨ih0, ih1, ih2⟩ := font_Draw.mono_l k
  refine ⟨?_, ?_, ?_⟩
  ·intro y0 y1 y2 y3 y4 y5
   unfold font_Draw.l0
   repeat' first
   | (with_reducible exact ih0 _ _ _ _ _ _)
   | (with_reducible exact ih1 _ _ _ _ _ _ _ _ _ _)
   | (with_reducible exact ih2 _ _ _ _ _ _ _ _ _ _ _ _)
   | (with_reducible exact font_check.mono _ _ _)
   | (with_reducible exact font_find.mono _ _)
   | (with_reducible exact raster_Enlarge.mono _ _ _ _ _)
   | (with_reducible exact LeO.refl _)
   | (with_reducible exact LeO.none _)
   | (with_reducible refine LeO.ite ?_ ?_)
   | (with_reducible refine LeO.bind ?_ (fun _ => ?_))
   | exact ih0 _ _ _ _ _ _
   | exact ih1 _ _ _ _ _ _ _ _ _ _
   | exact ih2 _ _ _ _ _ _ _ _ _ _ _ _
   | exact font_check.mono _ _ _
   | exact font_find.mono _ _
   | exact raster_Enlarge.mono _ _ _ _ _
   | exact LeO.none _
   | refine LeO.ite ?_ ?_
   | refine LeO.bind ?_ (fun _ => ?_)
  ·intro y0 y1 y2 y3 y4 y5 y6 y7 y8 y9
   unfold font_Draw.l1
   repeat' first
   | (with_reducible exact ih0 _ _ _ _ _ _)
   | (with_reducible exact ih1 _ _ _ _ _ _ _ _ _ _)
   | (with_reducible exact ih2 _ _ _ _ _ _ _ _ _ _ _ _)
   | (with_reducible exact font_check.mono _ _ _)
   | (with_reducible exact font_find.mono _ _)
   | (with_reducible exact raster_Enlarge.mono _ _ _ _ _)
   | (with_reducible exact LeO.refl _)
   | (with_reducible exact LeO.none _)
   | (with_reducible refine LeO.ite ?_ ?_)
   | (with_reducible refine LeO.bind ?_ (fun _ => ?_))
   | exact ih0 _ _ _ _ _ _
   | exact ih1 _ _ _ _ _ _ _ _ _ _
   | exact ih2 _ _ _ _ _ _ _ _ _ _ _ _
   | exact font_check.mono _ _ _
   | exact font_find.mono _ _
   | exact raster_Enlarge.mono _ _ _ _ _
   | exact LeO.none _
   | refine LeO.ite ?_ ?_
   | refine LeO.bind ?_ (fun _ => ?_)
  ·intro y0 y1 y2 y3 y4 y5 y6 y7 y8 y9 y10 y11
   unfold font_Draw.l2
   repeat' first
   | (with_reducible exact ih0 _ _ _ _ _ _)
   | (with_reducible exact ih1 _ _ _ _ _ _ _ _ _ _)
   | (with_reducible exact ih2 _ _ _ _ _ _ _ _ _ _ _ _)
   | (with_reducible exact font_check.mono _ _ _)
   | (with_reducible exact font_find.mono _ _)
   | (with_reducible exact raster_Enlarge.mono _ _ _ _ _)
   | (with_reducible exact LeO.refl _)
   | (with_reducible exact LeO.none _)
   | (with_reducible refine LeO.ite ?_ ?_)
   | (with_reducible refine LeO.bind ?_ (fun _ => ?_))
   | exact ih0 _ _ _ _ _ _
   | exact ih1 _ _ _ _ _ _ _ _ _ _
   | exact ih2 _ _ _ _ _ _ _ _ _ _ _ _
   | exact font_check.mono _ _ _
   | exact font_find.mono _ _
   | exact raster_Enlarge.mono _ _ _ _ _
   | exact LeO.none _
   | refine LeO.ite ?_ ?_
   | refine LeO.bind ?_ (fun _ => ?_)
theorem font_Draw.mono : ∀ a0 a1 k, LeO (font_Draw.f k a0 a1) (font_Draw.f (k + 1) a0 a1) := by
 intro a0 a1 k
 obtain ⟨ih0, ih1, ih2⟩ := font_Draw.mono_l k
 unfold font_Draw.f
 repeat' first
   | (with_reducible exact ih0 _ _ _ _ _ _)
   | (with_reducible exact ih1 _ _ _ _ _ _ _ _ _ _)
   | (with_reducible exact ih2 _ _ _ _ _ _ _ _ _ _ _ _)
   | (with_reducible exact font_check.mono _ _ _)
   | (with_reducible exact font_find.mono _ _)
   | (with_reducible exact raster_Enlarge.mono _ _ _ _ _)
   | (with_reducible exact LeO.refl _)
   | (with_reducible exact LeO.none _)
   | (with_reducible refine LeO.ite ?_ ?_)
   | (with_reducible refine LeO.bind ?_ (fun _ => ?_))
   | exact ih0 _ _ _ _ _ _
   | exact ih1 _ _ _ _ _ _ _ _ _ _
   | exact ih2 _ _ _ _ _ _ _ _ _ _ _ _
   | exact font_check.mono _ _ _
   | exact font_find.mono _ _
   | exact raster_Enlarge.mono _ _ _ _ _
   | exact LeO.none _
   | refine LeO.ite ?_ ?_
   | refine LeO.bind ?_ (fun _ => ?_)
def font_Draw.T15 : Bool × List (List Nat × List Nat) := (true, [([], []), ([0], [0]), ([], []), ([], []), ([3], [3]), ([2, 4], [2, 4]), ([], []), ([6], [6]), ([5, 7], [5, 7]), ([], []), ([8, 9], [8, 9]), ([], []), ([], []), ([], []), ([11, 12, 13], [11, 12, 13]), ([1, 10, 0, 1, 2, 3, 4, 5, 6, 7, 8, 9, 10, 11, 12, 13, 14], [1, 10]), ([15, 14, 14, 0, 1, 2, 3, 4, 5, 6, 7, 8, 9, 10, 11, 12, 13, 14], [14, 15])])
def font_Draw.B15 : List Nat := [0, 1, 0, 0, 8, 28, 0, 64, 252, 0, 1020, 0, 0, 0, 14336, 32767, 65535]
theorem font_Draw.tab15 : rtab .any (opsOf Try.f12 15) = font_Draw.T15 := by kernel_rfl
theorem font_Draw.bits15 : waitsOk font_Draw.T15.2 font_Draw.B15 = true := by kernel_rfl
set_option maxHeartbeats 8000000 in
set_option maxRecDepth 100000 in
theorem font_Draw.calls (k : Nat) (a0 : ByteArray) (a1 : Int) (r1 : Int) (r2 : Int) (r3 : List Bool) (r4 : Int) (w : World) (h : font_Draw.f k a0 a1 = some (r1, r2, r3, r4)) :
  Calls Try.prog 12 #[.string a0, .int .i64 a1] w fun e w' => ∃ v2_ : Value, e = .returned (.tuple #[.agg #[.int .i64 r1, .int .i64 r2, v2_], .int .i64 r4]) ∧ Kd.R Kd.bool 4 w' w.heap.size (fun _ => True) v2_ r3 ∧ Below w.heap.size w w' := by
 have hu24 := Try.underlying24
 have hu44 := Try.underlying44
 have HB := Aside0.mk (Below.refl w.heap.size w)
 have H : ((font_check.f k a0 a1).bind fun t156 => (if t156 = 0 then ((raster_New.f (wrap64 ((wrap64 (6 * (a0.size : Int))) - 1)) 7).bind fun bt157 => (font_Draw.l0 k a1 bt157.1 bt157.2.1 bt157.2.2.1 a0 0)) else (some (0, 0, ([] : List Bool), t156)))) = some (r1, r2, r3, r4) := h
 clear h
 replace H := Option.bind_eq_some_iff.mp H
 obtain ⟨t156, A30, H⟩ := H
 replace H : (if t156 = 0 then ((raster_New.f (wrap64 ((wrap64 (6 * (a0.size : Int))) - 1)) 7).bind fun bt157 => (font_Draw.l0 k a1 bt157.1 bt157.2.1 bt157.2.2.1 a0 0)) else (some (0, 0, ([] : List Bool), t156))) = some (r1, r2, r3, r4) := H
 have A3 := Aside0.mk A30
 clear A30
 by_cases c4 : t156 = 0
 ·rw [if_pos c4] at H
  have c4b0 : (t156 == 0) = true := beq_iff_eq.mpr c4
  have c4b1 : (t156 != 0) = false := bne_eq_false_iff_eq.mpr c4
  clear c4
  replace H := Option.bind_eq_some_iff.mp H
  obtain ⟨⟨t157, t158, t159, t162⟩, A50, H⟩ := H
  replace H : (font_Draw.l0 k a1 t157 t158 t159 a0 0) = some (r1, r2, r3, r4) := H
  have A5 := Aside0.mk A50
  clear A50
  have H' := Aside0.mk H
  clear H
  go_enter Try.func12, Try.ntmps12
  go_wp2_with (first | ((with_reducible refine gate_dst (N := 4) rfl ?_); refine box_event ?hg (N := 4) ?hd (cs := #[.int .i64 0, .int .i64 0, .slice none 0 0]) (t := 24) ?hr ?_; (case hd => rfl); (case hg => rfl); (case hr => first | (go_simp; done) | (go_simp; rfl)); intro gb155 hg w6 hbox hb; have n0_ := Aside0.mk (below_step (hb0 HB) hb); have n1_ := Aside0.mk (hbox); have n2_ := Aside0.mk ((by rw [hg]; exact (below_size (hb0 HB)) : w.heap.size ≤ gb155)); have n3_ := Aside0.mk ((by rw [hg]; exact (below_size (hb0 HB)) : w.heap.size ≤ gb155)); clear HB; have HB := n0_; have BK155 := n1_; have GW155 := n2_; have GE155 := n3_; clear n0_ n1_ n2_ n3_; clear hb hbox hg) | ((with_reducible refine gate_callee (f := 27) rfl ?_); refine goesL_ (some 17) rfl rfl Try.func27 (by kernel_rfl) rfl #[.string a0, .int .i64 a1] rfl mapx ?_; (with_reducible refine (font_check.calls k a0 a1 t156 _ A3.out).mono ?_); rintro e w7 ⟨rfl, hb⟩; refine ⟨_, rfl, ?_⟩; have n0_ := Aside0.mk (blk_below (bkx BK155) hb); have n1_ := Aside0.mk (below_step (hb1 HB GE155) hb); clear BK155; clear HB; have BK155 := n0_; have HB := n1_; clear n0_ n1_; (try clear hb); (try clear hb2); (try clear hk); (try clear hi)) | ((with_reducible refine gate_callee (f := 28) rfl ?_); refine goesL_ (some 27) rfl rfl Try.func28 (by kernel_rfl) rfl #[.int .i64 (wrap64 ((wrap64 (6 * (a0.size : Int))) - 1)), .int .i64 7] rfl mapx ?_; (with_reducible refine (raster_New.calls (wrap64 ((wrap64 (6 * (a0.size : Int))) - 1)) 7 t157 t158 t159 t162 _ A5.out).mono ?_); rintro e w8 ⟨v160, rfl, ho0, hb⟩; refine ⟨_, rfl, ?_⟩; have n0_ := Aside0.mk (Kd.R_lower ho0 (below_size (hb1 HB GE155))); have n1_ := Aside0.mk (blk_below (bkx BK155) hb); have n2_ := Aside0.mk (below_step (hb1 HB GE155) hb); clear BK155; clear HB; have HO161 := n0_; have BK155 := n1_; have HB := n2_; clear n0_ n1_ n2_; (try clear hb); (try clear hb2); (try clear hk); (try clear hi); (try clear ho0)) | ((with_reducible refine gate_dst (N := 7) rfl ?_); refine box_event ?hg (N := 7) ?hd (cs := #[.int .i64 0, .int .i64 0, .slice none 0 0]) (t := 24) ?hr ?_; (case hd => rfl); (case hg => rfl); (case hr => first | (go_simp; done) | (go_simp; rfl)); intro gb163 hg w9 hbox hb; have n0_ := Aside0.mk (Kd.R_below (rkx HO161) hb); have n1_ := Aside0.mk (blk_below (bkx BK155) hb); have n2_ := Aside0.mk (below_step (hb1 HB GE155) hb); have n3_ := Aside0.mk (hbox); have n4_ := Aside0.mk ((by rw [hg]; exact (below_size (hb1 HB GE155)) : w.heap.size ≤ gb163)); have n5_ := Aside0.mk ((by rw [hg]; exact (below_size (hb1 HB GE155)) : w.heap.size ≤ gb163)); have n6_ := Aside0.mk (nel hg BK155 : gb155 ≠ gb163); have n7_ := Aside0.mk (neg hg BK155 : gb163 ≠ gb155); clear HO161; clear BK155; clear HB; have HO161 := n0_; have BK155 := n1_; have HB := n2_; have BK163 := n3_; have GW163 := n4_; have GE163 := n5_; have NB155_163 := n6_; have NB163_155 := n7_; clear n0_ n1_ n2_ n3_ n4_ n5_ n6_ n7_; clear hb hbox hg; have hnb10 := NB163_155.out; have hnc10 := NB155_163.out; have hcz11_0 : w9.cell? ⟨gb163, 0, none⟩ = some (.int .i64 0) := (blk_cell BK163.out 0).trans rfl; have hcz11_1 : w9.cell? ⟨gb163, 1, none⟩ = some (.int .i64 0) := (blk_cell BK163.out 1).trans rfl; have hcz11_2 : w9.cell? ⟨gb163, 2, none⟩ = some (.slice none 0 0) := (blk_cell BK163.out 2).trans rfl; have hfz11_0 := blk_frozen BK163.out 0; have hfz11_1 := blk_frozen BK163.out 1; have hfz11_2 := blk_frozen BK163.out 2; obtain ⟨Ao12, co12, eo12⟩ := Kd.R_slice HO161.out; subst eo12) | ((with_reducible refine gate_dst (N := 31) rfl ?_); refine XIter.iter_event (t := 9) (x := (.tmp 30)) (s := a0) (N := 31) ?hg ?hd ?ho ?hu ?hx ?_; (case hg => rfl); (case hd => rfl); (case ho => rfl); (case hu => exact Try.underlying9); (case hx => first | rfl | (go_simp; done) | (go_simp; rfl)); intro gb164 hg w13 hbox hb; have n0_ := Aside0.mk (Kd.R_below (by refine rkt ?_; exact (far3 HO161 BK163)) hb); have n1_ := Aside0.mk (blk_below (g := gb155) (o := .cells #[.int .i64 0, .int .i64 0, .slice none 0 0] 24 (0, 0)) (bky BK155 NB155_163) hb); have n2_ := Aside0.mk (blk_below (g := gb163) (o := .cells #[.int .i64 t157, .int .i64 t158, .slice Ao12 t159.length co12] 24 (0, 0)) (by refine bkt ?_; refine blk_put (cs := #[.int .i64 t157, .int .i64 t158, .slice none 0 0]) ?_ 2 _ rfl; refine bkt ?_; refine blk_put (cs := #[.int .i64 t157, .int .i64 0, .slice none 0 0]) ?_ 1 _ rfl; refine bkt ?_; refine blk_put (cs := #[.int .i64 0, .int .i64 0, .slice none 0 0]) ?_ 0 _ rfl; refine bkt ?_; exact BK163.out) hb); have n3_ := Aside0.mk (below_step (hb2 HB GE155 GE163) hb); have n4_ := Aside0.mk (hbox); have n5_ := Aside0.mk ((by rw [hg]; exact (below_size (hb2 HB GE155 GE163)) : w.heap.size ≤ gb164)); have n6_ := Aside0.mk ((by rw [hg]; exact (below_size (hb2 HB GE155 GE163)) : w.heap.size ≤ gb164)); have n7_ := Aside0.mk ((by rw [hg]; exact Nat.ne_of_lt (blk_lt (g := gb155) (o := .cells #[.int .i64 0, .int .i64 0, .slice none 0 0] 24 (0, 0)) (bky BK155 NB155_163)) : gb155 ≠ gb164)); have n8_ := Aside0.mk ((by rw [hg]; exact Nat.ne_of_gt (blk_lt (g := gb155) (o := .cells #[.int .i64 0, .int .i64 0, .slice none 0 0] 24 (0, 0)) (bky BK155 NB155_163)) : gb164 ≠ gb155)); have n9_ := Aside0.mk ((by rw [hg]; exact Nat.ne_of_lt (blk_lt (g := gb163) (o := .cells #[.int .i64 t157, .int .i64 t158, .slice Ao12 t159.length co12] 24 (0, 0)) (by refine bkt ?_; refine blk_put (cs := #[.int .i64 t157, .int .i64 t158, .slice none 0 0]) ?_ 2 _ rfl; refine bkt ?_; refine blk_put (cs := #[.int .i64 t157, .int .i64 0, .slice none 0 0]) ?_ 1 _ rfl; refine bkt ?_; refine blk_put (cs := #[.int .i64 0, .int .i64 0, .slice none 0 0]) ?_ 0 _ rfl; refine bkt ?_; exact BK163.out)) : gb163 ≠ gb164)); have n10_ := Aside0.mk ((by rw [hg]; exact Nat.ne_of_gt (blk_lt (g := gb163) (o := .cells #[.int .i64 t157, .int .i64 t158, .slice Ao12 t159.length co12] 24 (0, 0)) (by refine bkt ?_; refine blk_put (cs := #[.int .i64 t157, .int .i64 t158, .slice none 0 0]) ?_ 2 _ rfl; refine bkt ?_; refine blk_put (cs := #[.int .i64 t157, .int .i64 0, .slice none 0 0]) ?_ 1 _ rfl; refine bkt ?_; refine blk_put (cs := #[.int .i64 0, .int .i64 0, .slice none 0 0]) ?_ 0 _ rfl; refine bkt ?_; exact BK163.out)) : gb164 ≠ gb163)); clear HO161; clear BK155; clear BK163; clear HB; have HO161 := n0_; have BK155 := n1_; have BK163 := n2_; have HB := n3_; have BK164 := n4_; have GW164 := n5_; have GE164 := n6_; have NB155_164 := n7_; have NB164_155 := n8_; have NB163_164 := n9_; have NB164_163 := n10_; clear n0_ n1_ n2_ n3_ n4_ n5_ n6_ n7_ n8_ n9_ n10_; clear hb hbox hg; (try simp only [Act.put, List.setIfInBounds_toArray, List.set_cons_zero, List.set_cons_succ])))
  go_loopg [] k (fun kq w' => ∃ (x164002_1 : List Bool) (x165001_1 : Int) (u164002 : Value), Aside0 (font_Draw.l0 kq a1 t157 t158 x164002_1 a0 x165001_1 = some (r1, r2, r3, r4)) ∧ Aside0 (kq ≤ k) ∧ Aside0 (Kd.R Kd.bool 4 w' w.heap.size (fun _ => True) u164002 x164002_1) ∧ Aside0 (w'.heap[gb155]? = some (.cells #[.int .i64 0, .int .i64 0, (.slice none 0 0)] 24 (0, 0))) ∧ Aside0 (w'.heap[gb163]? = some (.cells #[.int .i64 t157, .int .i64 t158, u164002] 24 (0, 0))) ∧ Aside0 (w'.heap[gb164]? = some (.stringIter a0 (x165001_1 : Int).toNat)) ∧ Aside0 (Below w.heap.size w w'))
  case atStart => exact ⟨(t159), (0), (.slice Ao12 t159.length co12), H', ⟨Nat.le_refl _⟩, ⟨rkx HO161⟩, ⟨bkx BK155⟩, ⟨bkx BK163⟩, ⟨bkx BK164⟩, ⟨hb3 HB GE155 GE163 GE164⟩⟩
  case round =>
   clear H'
   try clear c1
   try clear c2
   try clear p2
   try clear c4
   try clear c4b0
   try clear c4b1
   try clear p6
   try clear c10
   try clear c12
   try clear hcz11_0
   try clear hcz11_1
   try clear hcz11_2
   try clear hfz11_0
   try clear hfz11_1
   try clear hfz11_2
   obtain ⟨x164002_1, x165001_1, u164002, HA, HK1, HO_164002, BK155, BK163, BK164, HB⟩ := hrel
   cases gk with
   | zero => exact absurd HA.out (by simp [font_Draw.l0])
   | succ k1 =>
    have H := HA.out
    clear HA
    simp only [font_Draw.l0] at H
    by_cases c14 : 0 ≤ x165001_1
    ·rw [if_pos c14] at H
     have c14b0 := eq_true c14
     have c14b1 : decide (0 ≤ x165001_1) = true := decide_eq_true c14
     clear c14
     by_cases c15 : x165001_1 < (a0.size : Int)
     ·rw [if_pos c15] at H
      have c15b0 : decide (x165001_1 < (a0.size : Int)) = true := decide_eq_true c15
      clear c15
      replace H := Option.bind_eq_some_iff.mp H
      obtain ⟨⟨t165, t166, t167⟩, A160, H⟩ := H
      replace H : (font_Draw.l1 k1 a1 x165001_1 0 t157 t158 x164002_1 a0 (XIter.nx a0 x165001_1) t165 t166) = some (r1, r2, r3, r4) := H
      have A16 := Aside0.mk A160
      clear A160
      have H' := Aside0.mk H
      clear H
      go_wp2_with (first | ((with_reducible refine gate_dst (N := 32) rfl ?_); refine XIter.next_some (i := .tmp 31) (g := gb164) (s := a0) (x := x165001_1) (N := 32) ?hg ?hd ?ho ?hi ?hb ?h0 ?h1 ?_; (case hg => rfl); (case hd => rfl); (case ho => rfl); (case hi => first | rfl | (go_simp; done) | (go_simp; rfl)); (case hb => exact (show _ = some (Obj.stringIter a0 (x165001_1 : Int).toNat) from by refine bkt ?_; exact BK164.out)); (case h0 => exact of_decide_eq_true (by first | (with_reducible assumption) | assumption)); (case h1 => exact of_decide_eq_true (by first | (with_reducible assumption) | assumption)); intro w17 hs hbox; have n0_ := Aside0.mk (XIter.R_it (rkx HO_164002) (show _ = some (Obj.stringIter a0 (x165001_1 : Int).toNat) from by refine bkt ?_; exact BK164.out) hs); have n1_ := Aside0.mk (XIter.blk_it (show _ = some (Obj.cells #[.int .i64 0, .int .i64 0, .slice none 0 0] 24 (0, 0)) from by refine bkt ?_; exact BK155.out) (show _ = some (Obj.stringIter a0 (x165001_1 : Int).toNat) from by refine bkt ?_; exact BK164.out) hs); have n2_ := Aside0.mk (XIter.blk_it (show _ = some (Obj.cells #[.int .i64 t157, .int .i64 t158, u164002] 24 (0, 0)) from by refine bkt ?_; exact BK163.out) (show _ = some (Obj.stringIter a0 (x165001_1 : Int).toNat) from by refine bkt ?_; exact BK164.out) hs); have n3_ := Aside0.mk (XIter.below_it (hb3 HB GE155 GE163 GE164) GE164.out hs); have n4_ := Aside0.mk (hbox); clear HO_164002; clear BK155; clear BK163; clear HB; clear BK164; have HO_164002 := n0_; have BK155 := n1_; have BK163 := n2_; have HB := n3_; have BK164 := n4_; clear n0_ n1_ n2_ n3_ n4_; clear hs hbox; (try simp only [Act.put, List.setIfInBounds_toArray, List.set_cons_zero, List.set_cons_succ])) | ((with_reducible refine gate_callee (f := 24) rfl ?_); refine goesL_ (some 39) rfl rfl Try.func24 (by kernel_rfl) rfl #[.int .u8 ((XIter.rn a0 x165001_1) % 256)] rfl mapx ?_; (with_reducible refine (font_find.calls k1 ((XIter.rn a0 x165001_1) % 256) t165 t166 t167 _ A16.out).mono ?_); rintro e w18 ⟨rfl, hb⟩; refine ⟨_, rfl, ?_⟩; have n0_ := Aside0.mk (Kd.R_below (rkx HO_164002) hb); have n1_ := Aside0.mk (blk_below (bkx BK155) hb); have n2_ := Aside0.mk (blk_below (bkx BK163) hb); have n3_ := Aside0.mk (blk_below (g := gb164) (o := .stringIter a0 (XIter.nx a0 x165001_1 : Int).toNat) (bkx BK164) hb); have n4_ := Aside0.mk (below_step (hb3 HB GE155 GE163 GE164) hb); clear HO_164002; clear BK155; clear BK163; clear BK164; clear HB; have HO_164002 := n0_; have BK155 := n1_; have BK163 := n2_; have BK164 := n3_; have HB := n4_; clear n0_ n1_ n2_ n3_ n4_; (try clear hb); (try clear hb2); (try clear hk); (try clear hi)) | ((with_reducible refine gate_dst (N := 11) rfl ?_); refine box_event ?hg (N := 11) ?hd (cs := #[.int .u8 0, .string (⟨#[]⟩ : ByteArray)]) (t := 44) ?hr ?_; (case hd => rfl); (case hg => rfl); (case hr => first | (go_simp; done) | (go_simp; rfl)); intro gb168 hg w19 hbox hb; have n0_ := Aside0.mk (Kd.R_below (rkx HO_164002) hb); have n1_ := Aside0.mk (blk_below (bkx BK155) hb); have n2_ := Aside0.mk (blk_below (bkx BK163) hb); have n3_ := Aside0.mk (blk_below (g := gb164) (o := .stringIter a0 (XIter.nx a0 x165001_1 : Int).toNat) (bkx BK164) hb); have n4_ := Aside0.mk (below_step (hb3 HB GE155 GE163 GE164) hb); have n5_ := Aside0.mk (hbox); have n6_ := Aside0.mk ((by rw [hg]; exact (below_size (hb3 HB GE155 GE163 GE164)) : w.heap.size ≤ gb168)); have n7_ := Aside0.mk ((by rw [hg]; exact (below_size (hb3 HB GE155 GE163 GE164)) : w.heap.size ≤ gb168)); have n8_ := Aside0.mk (nel hg BK155 : gb155 ≠ gb168); have n9_ := Aside0.mk (neg hg BK155 : gb168 ≠ gb155); have n10_ := Aside0.mk (nel hg BK163 : gb163 ≠ gb168); have n11_ := Aside0.mk (neg hg BK163 : gb168 ≠ gb163); have n12_ := Aside0.mk ((by rw [hg]; exact Nat.ne_of_lt (blk_lt (g := gb164) (o := .stringIter a0 (XIter.nx a0 x165001_1 : Int).toNat) (bkx BK164)) : gb164 ≠ gb168)); have n13_ := Aside0.mk ((by rw [hg]; exact Nat.ne_of_gt (blk_lt (g := gb164) (o := .stringIter a0 (XIter.nx a0 x165001_1 : Int).toNat) (bkx BK164)) : gb168 ≠ gb164)); clear HO_164002; clear BK155; clear BK163; clear BK164; clear HB; have HO_164002 := n0_; have BK155 := n1_; have BK163 := n2_; have BK164 := n3_; have HB := n4_; have BK168 := n5_; have GW168 := n6_; have GE168 := n7_; have NB155_168 := n8_; have NB168_155 := n9_; have NB163_168 := n10_; have NB168_163 := n11_; have NB164_168 := n12_; have NB168_164 := n13_; clear n0_ n1_ n2_ n3_ n4_ n5_ n6_ n7_ n8_ n9_ n10_ n11_ n12_ n13_; clear hb hbox hg; have hnb20 := NB168_155.out; have hnc20 := NB155_168.out; have hnb21 := NB168_163.out; have hnc21 := NB163_168.out; have hnb22 := NB168_164.out; have hnc22 := NB164_168.out; have hcz23_0 : w19.cell? ⟨gb168, 0, none⟩ = some (.int .u8 0) := (blk_cell BK168.out 0).trans rfl; have hcz23_1 : w19.cell? ⟨gb168, 1, none⟩ = some (.string (⟨#[]⟩ : ByteArray)) := (blk_cell BK168.out 1).trans rfl; have hfz23_0 := blk_frozen BK168.out 0; have hfz23_1 := blk_frozen BK168.out 1))
      go_loopg [42] k1 (fun kq v42 w' => ∃ (x42_2 : Int) (x164002_2 : List Bool) (u164002 : Value), v42 = .int .i64 x42_2 ∧ Aside0 (font_Draw.l1 kq a1 x165001_1 x42_2 t157 t158 x164002_2 a0 (XIter.nx a0 x165001_1) t165 t166 = some (r1, r2, r3, r4)) ∧ Aside0 (kq ≤ k1) ∧ Aside0 (Kd.R Kd.bool 4 w' w.heap.size (fun _ => True) u164002 x164002_2) ∧ Aside0 (w'.heap[gb155]? = some (.cells #[.int .i64 0, .int .i64 0, (.slice none 0 0)] 24 (0, 0))) ∧ Aside0 (w'.heap[gb163]? = some (.cells #[.int .i64 t157, .int .i64 t158, u164002] 24 (0, 0))) ∧ Aside0 (w'.heap[gb164]? = some (.stringIter a0 ((XIter.nx a0 x165001_1) : Int).toNat)) ∧ Aside0 (w'.heap[gb168]? = some (.cells #[.int .u8 t165, .string t166] 44 (0, 0))) ∧ Aside0 (Below w.heap.size w w'))
      case atStart => exact ⟨(0), (x164002_1), (u164002), (by first | rfl | (simp; done) | (simp [*]; done)), H', ⟨Nat.le_refl _⟩, ⟨by refine rkt ?_; exact Kd.R_mono (Kd.R_far (p := ⟨gb168, 1, none⟩) (Kd.R_far (p := ⟨gb168, 0, none⟩) (Kd.R_types HO_164002.out BK168.out (by decide)) (fun _ hk => hk.2) (.int .u8 t165)) (fun _ hk => hk.2) (.string t166)) (fun _ hk => trivial)⟩, ⟨bky BK155 NB155_168⟩, ⟨bky BK163 NB163_168⟩, ⟨by refine bkt ?_; refine XIter.it_far ?_ NB164_168.out; refine bkt ?_; refine XIter.it_far ?_ NB164_168.out; refine bkt ?_; exact BK164.out⟩, ⟨by refine bkt ?_; refine blk_put (cs := #[.int .u8 t165, .string (⟨#[]⟩ : ByteArray)]) ?_ 1 _ rfl; refine bkt ?_; refine blk_put (cs := #[.int .u8 0, .string (⟨#[]⟩ : ByteArray)]) ?_ 0 _ rfl; refine bkt ?_; exact BK168.out⟩, ⟨hb4 HB GE155 GE163 GE164 GE168⟩⟩
      case round =>
       clear H'
       try clear c1
       try clear c2
       try clear p2
       try clear c4
       try clear c4b0
       try clear c4b1
       try clear p6
       try clear c10
       try clear c12
       try clear c14
       try clear c14b0
       try clear c14b1
       try clear c15
       try clear c15b0
       try clear c20
       try clear c21
       try clear c22
       try clear hcz11_0
       try clear hcz11_1
       try clear hcz11_2
       try clear hcz23_0
       try clear hcz23_1
       try clear hfz11_0
       try clear hfz11_1
       try clear hfz11_2
       try clear hfz23_0
       try clear hfz23_1
       try clear p2
       try clear p6
       obtain ⟨x42_2, x164002_2, u164002, rfl, HA, HK2, HO_164002, BK155, BK163, BK164, BK168, HB⟩ := hrel
       cases gk with
       | zero => exact absurd HA.out (by simp [font_Draw.l1])
       | succ k2 =>
        have H := HA.out
        clear HA
        simp only [font_Draw.l1] at H
        by_cases c24 : x42_2 < 7
        ·rw [if_pos c24] at H
         have c24b0 : decide (x42_2 < 7) = true := decide_eq_true c24
         clear c24
         have H' := Aside0.mk H
         clear H
         go_wp2
         go_loopg [45] k2 (fun kq v45 w' => ∃ (x45_3 : Int) (x164002_3 : List Bool) (u164002 : Value), v45 = .int .i64 x45_3 ∧ Aside0 (font_Draw.l2 kq a1 x165001_1 x42_2 x42_2 x45_3 t157 t158 x164002_3 a0 (XIter.nx a0 x165001_1) t165 t166 = some (r1, r2, r3, r4)) ∧ Aside0 (kq ≤ k2) ∧ Aside0 (Kd.R Kd.bool 4 w' w.heap.size (fun _ => True) u164002 x164002_3) ∧ Aside0 (w'.heap[gb155]? = some (.cells #[.int .i64 0, .int .i64 0, (.slice none 0 0)] 24 (0, 0))) ∧ Aside0 (w'.heap[gb163]? = some (.cells #[.int .i64 t157, .int .i64 t158, u164002] 24 (0, 0))) ∧ Aside0 (w'.heap[gb164]? = some (.stringIter a0 ((XIter.nx a0 x165001_1) : Int).toNat)) ∧ Aside0 (w'.heap[gb168]? = some (.cells #[.int .u8 t165, .string t166] 44 (0, 0))) ∧ Aside0 (Below w.heap.size w w'))
         case atStart => exact ⟨(0), (x164002_2), (u164002), (by first | rfl | (simp; done) | (simp [*]; done)), H', ⟨Nat.le_refl _⟩, ⟨rkx HO_164002⟩, ⟨bkx BK155⟩, ⟨bkx BK163⟩, ⟨bkx BK164⟩, ⟨bkx BK168⟩, ⟨hb4 HB GE155 GE163 GE164 GE168⟩⟩
         case round =>
          clear H'
          try clear c1
          try clear c2
          try clear p2
          try clear c4
          try clear c4b0
          try clear c4b1
          try clear p6
          try clear c10
          try clear c12
          try clear c14
          try clear c14b0
          try clear c14b1
          try clear c15
          try clear c15b0
          try clear c20
          try clear c21
          try clear c22
          try clear c24
          try clear c24b0
          try clear hcz11_0
          try clear hcz11_1
          try clear hcz11_2
          try clear hcz23_0
          try clear hcz23_1
          try clear hfz11_0
          try clear hfz11_1
          try clear hfz11_2
          try clear hfz23_0
          try clear hfz23_1
          try clear p2
          try clear p6
          obtain ⟨x45_3, x164002_3, u164002, rfl, HA, HK3, HO_164002, BK155, BK163, BK164, BK168, HB⟩ := hrel
          cases gk with
          | zero => exact absurd HA.out (by simp [font_Draw.l2])
          | succ k3 =>
           have H := HA.out
           clear HA
           simp only [font_Draw.l2] at H
           by_cases c25 : x45_3 < 5
           ·rw [if_pos c25] at H
            have c25b0 : decide (x45_3 < 5) = true := decide_eq_true c25
            clear c25
            replace H := Option.bind_eq_some_iff.mp H
            obtain ⟨t169, A260, H⟩ := H
            replace H : (if 0 ≤ (wrap64 ((wrap64 ((wrap64 (x42_2 * t157)) + (wrap64 (6 * x165001_1)))) + x45_3)) then (if (wrap64 ((wrap64 ((wrap64 (x42_2 * t157)) + (wrap64 (6 * x165001_1)))) + x45_3)) < (x164002_3.length : Int) then (font_Draw.l2 k3 a1 x165001_1 x42_2 x42_2 (wrap64 (x45_3 + 1)) t157 t158 (x164002_3.set ((wrap64 ((wrap64 ((wrap64 (x42_2 * t157)) + (wrap64 (6 * x165001_1)))) + x45_3)) : Int).toNat t169) a0 (XIter.nx a0 x165001_1) t165 t166) else (none)) else (none)) = some (r1, r2, r3, r4) := H
            have A26 := Aside0.mk A260
            clear A260
            obtain ⟨ji27, hji27⟩ : ∃ j_ : Int, (wrap64 ((wrap64 ((wrap64 (x42_2 * t157)) + (wrap64 (6 * x165001_1)))) + x45_3)) = j_ := ⟨_, rfl⟩
            replace H : (if 0 ≤ (ji27) then (if (ji27) < (x164002_3.length : Int) then (font_Draw.l2 k3 a1 x165001_1 x42_2 x42_2 (wrap64 (x45_3 + 1)) t157 t158 (x164002_3.set ((ji27) : Int).toNat t169) a0 (XIter.nx a0 x165001_1) t165 t166) else (none)) else (none)) = some (r1, r2, r3, r4) := by first | (rw [hji27] at H; exact H) | (simp only [hji27] at H ⊢; exact H)
            (try rw [hji27] at A26)
            have hji27w : (IntKind.i64.wrap ((wrap64 ((wrap64 (x42_2 * t157)) + (wrap64 (6 * x165001_1)))) + x45_3)) = ji27 := (i64_w _).trans hji27
            by_cases c28 : 0 ≤ (ji27)
            ·rw [if_pos c28] at H
             have c28b0 : decide (0 ≤ (ji27)) = true := decide_eq_true c28
             clear c28
             by_cases c29 : (ji27) < (x164002_3.length : Int)
             ·rw [if_pos c29] at H
              have c29b0 : decide ((ji27) < (x164002_3.length : Int)) = true := decide_eq_true c29
              clear c29
              obtain ⟨y170, hy170⟩ : ∃ y_ : List Bool, y_ = (x164002_3.set ((ji27) : Int).toNat t169) := ⟨_, rfl⟩
              replace H : (font_Draw.l2 k3 a1 x165001_1 x42_2 x42_2 (wrap64 (x45_3 + 1)) t157 t158 y170 a0 (XIter.nx a0 x165001_1) t165 t166) = some (r1, r2, r3, r4) := by first | (rw [hy170]; with_reducible exact H) | (have H2_ := (Option.bind_some _ _).symm.trans H; rw [hy170]; with_reducible exact H2_) | (have H2_ := (Option.bind_some _ _).symm.trans H; with_reducible exact H2_) | with_reducible exact H | (rw [hy170]; exact H) | exact H
              have Ny170 := Aside0.mk hy170
              clear hy170
              have H' := Aside0.mk H
              clear H
              try go_wp2
              have n0_ := Aside0.mk (Kd.R_drew HO_164002.out)
              have n1_ := Aside0.mk (blk_drew BK155.out)
              have n2_ := Aside0.mk (blk_drew BK163.out)
              have n3_ := Aside0.mk (blk_drew BK164.out)
              have n4_ := Aside0.mk (blk_drew BK168.out)
              have n5_ := Aside0.mk (below_drew1 HB.out)
              clear HO_164002
              clear BK155
              clear BK163
              clear BK164
              clear BK168
              clear HB
              have HO_164002 := n0_
              have BK155 := n1_
              have BK163 := n2_
              have BK164 := n3_
              have BK168 := n4_
              have HB := n5_
              clear n0_ n1_ n2_ n3_ n4_ n5_
              refine start_ (n := 17) (S := fun w' => w'.cell? ⟨gb163, 0, none⟩ = some (.int .i64 t157) ∧ w'.cell? ⟨gb163, 1, none⟩ = some (.int .i64 t158) ∧ w'.cell? ⟨gb163, 2, none⟩ = some (u164002) ∧ w'.cell? ⟨gb168, 0, none⟩ = some (.int .u8 t165) ∧ w'.cell? ⟨gb168, 1, none⟩ = some (.string t166)) (ds := [16]) (bA 17 0) (by kernel_rfl) rfl rfl ⟨(blk_cell BK163.out 0).trans rfl, (blk_cell BK163.out 1).trans rfl, (blk_cell BK163.out 2).trans rfl, (blk_cell BK168.out 0).trans rfl, (blk_cell BK168.out 1).trans rfl⟩ (fun hHeld => ?_); refine with_tabW font_Draw.tab15 font_Draw.bits15 (fun HT_ HW_ => ?_)
              generalize wr.drew = w31 at HO_164002 BK155 BK163 BK164 BK168 HB hHeld ⊢
              refine pt HT_ 0 48 ?_
              refine pt HT_ 2 50 ?_
              refine pt HT_ 3 51 ?_
              refine pt HT_ 6 54 ?_
              refine pt HT_ 7 55 ?_
              refine pt HT_ 9 57 ?_
              refine pt HT_ 12 60 ?_
              refine pt HT_ 13 61 ?_
              refine tk HT_ HW_ hHeld 1 49 ?_
              refine tk HT_ HW_ hHeld 4 52 ?_
              refine pt HT_ 5 53 ?_
              refine pt HT_ 8 56 ?_
              refine pt HT_ 10 58 ?_
              refine tk HT_ HW_ hHeld 11 59 ?_
              refine one_ (i := 14) (N := some 62) (bA 17 32767) rfl rfl (one_of HT_.out (by kernel_rfl)) (by decide) (fun K hK => ?_)
              refine goes_ Try.func29 (by kernel_rfl) rfl #[.agg #[.int .u8 t165, .string t166], .int .i64 x45_3, .int .i64 x42_2] (by rfl) rfl rfl mapx ?_
              with_reducible refine (font_glyph_dark.calls t165 t166 x45_3 x42_2 t169 _ A26.out).mono ?_
              rintro e w32 ⟨rfl, hb⟩
              refine ⟨_, rfl, ?_⟩
              have n0_ := Aside0.mk (Kd.R_below (rkx HO_164002) hb)
              have n1_ := Aside0.mk (blk_below (bkx BK155) hb)
              have n2_ := Aside0.mk (blk_below (bkx BK163) hb)
              have n3_ := Aside0.mk (blk_below (g := gb164) (o := .stringIter a0 ((XIter.nx a0 x165001_1) : Int).toNat) (bkx BK164) hb)
              have n4_ := Aside0.mk (blk_below (bkx BK168) hb)
              have n5_ := Aside0.mk (below_step (hb4 HB GE155 GE163 GE164 GE168) hb)
              clear HO_164002
              clear BK155
              clear BK163
              clear BK164
              clear BK168
              clear HB
              have HO_164002 := n0_
              have BK155 := n1_
              have BK163 := n2_
              have BK164 := n3_
              have BK168 := n4_
              have HB := n5_
              clear n0_ n1_ n2_ n3_ n4_ n5_
              (try clear hb)
              (try clear hb2)
              (try clear hk)
              (try clear hi)
              have p30 : 0 ≤ ((ji27) : Int) := of_decide_eq_true (by first | (with_reducible assumption) | assumption)
              have q30 : ((ji27) : Int) < ((x164002_3.length : Int) : Int) := of_decide_eq_true (by first | (with_reducible assumption) | assumption)
              obtain ⟨go30, co30, eo30, gb30, gl30, cl30, HG30⟩ := Kd.R_form HO_164002.out (by omega)
              (first | cases eo30 | (injection eo30 with ea_ en_ ec_; (first | subst ea_ | (injection ea_ with ea_; subst ea_)); subst ec_; clear en_))
              have GB30 := Aside0.mk gb30
              have GG30 := Aside0.mk HG30
              clear gb30 gl30 HG30
              obtain ⟨hx30_0, hf30_0⟩ := Kd.R_celln false HO_164002.out ((ji27) : Int) p30 q30
              replace p30 := eq_true p30
              replace q30 := eq_true q30
              have HP33 := Kd.R_putn HO_164002.out ((ji27) : Int) t169
              rw [← Ny170.out] at HP33
              have HQ33 := Aside0.mk HP33
              clear HP33
              refine hK.out _ _ ⟨(blk_cell BK163.out 0).trans rfl, (blk_cell BK163.out 1).trans rfl, (blk_cell BK163.out 2).trans rfl, (blk_cell BK168.out 0).trans rfl, (blk_cell BK168.out 1).trans rfl⟩ (fun hHeld => ?_)
              clear hK K
              refine norm_ (a' := ?_) ?_ ?_
              rotate_left
              ·show Act.put _ (some 62) _ = _
               simp only [Act.put, List.setIfInBounds_toArray, List.set_cons_zero, List.set_cons_succ, i64_w, i32_w]
               rfl
              refine pt HT_ 15 63 ?_
              refine last_ (i := 16) (N := none) (bA 17 131071) rfl rfl (one_of HT_.out (by kernel_rfl)) (by decide) (fun K hK => ?_)
              refine skip_ (w1 := ?_) (by rfl) rfl ?_ ?_
              rotate_left
              ·go_simp
               rfl
              refine hK.out _ _ ?_
              clear hK K
              refine done_ (done_of HT_.out (by kernel_rfl)) ?_
              try go_wp2
              go_roundg k3
              case measure => have := HK1.out; have := HK2.out; have := HK3.out; omega
              case rel => exact ⟨(wrap64 (x45_3 + 1)), (y170), (.slice (some ⟨go30, 0, none⟩) x164002_3.length co30), (by first | rfl | (simp; done) | (simp [*]; done)), H', ⟨by have := HK1.out; have := HK2.out; have := HK3.out; omega⟩, ⟨rkx HQ33⟩, ⟨by refine bkt ?_; refine blk_far ?_ (by have h_ := Kd.R_ne HO_164002.out BK155.out (by decide); intro e_; exact h_ (by rw [e_]; rfl)) _; refine bkt ?_; exact BK155.out⟩, ⟨by refine bkt ?_; refine blk_far ?_ (by have h_ := Kd.R_ne HO_164002.out BK163.out (by decide); intro e_; exact h_ (by rw [e_]; rfl)) _; refine bkt ?_; exact BK163.out⟩, ⟨by refine bkt ?_; refine XIter.it_far ?_ (by have h_ := XIter.R_ne_it HO_164002.out BK164.out; intro e_; exact h_ (by rw [e_]; rfl)); refine bkt ?_; exact BK164.out⟩, ⟨by refine bkt ?_; refine blk_far ?_ (by have h_ := Kd.R_ne HO_164002.out BK168.out (by decide); intro e_; exact h_ (by rw [e_]; rfl)) _; refine bkt ?_; exact BK168.out⟩, ⟨hb5 HB GB30 GE155 GE163 GE164 GE168⟩⟩
             ·rw [if_neg c29] at H
              exact absurd H (by simp)
            ·rw [if_neg c28] at H
             exact absurd H (by simp)
           ·rw [if_neg c25] at H
            have c25b0 : decide (x45_3 < 5) = false := decide_eq_false c25
            clear c25
            have H' := Aside0.mk H
            clear H
            go_wp2
            go_roundg k3
            case measure => have := HK1.out; have := HK2.out; have := HK3.out; omega
            case rel => exact ⟨(wrap64 (x42_2 + 1)), (x164002_3), (u164002), (by first | rfl | (simp; done) | (simp [*]; done)), H', ⟨by have := HK1.out; have := HK2.out; have := HK3.out; omega⟩, ⟨rkx HO_164002⟩, ⟨bkx BK155⟩, ⟨bkx BK163⟩, ⟨bkx BK164⟩, ⟨bkx BK168⟩, ⟨hb4 HB GE155 GE163 GE164 GE168⟩⟩
        ·rw [if_neg c24] at H
         have c24b0 : decide (x42_2 < 7) = false := decide_eq_false c24
         clear c24
         have H' := Aside0.mk H
         clear H
         go_wp2
         go_roundg k2
         case measure => have := HK1.out; have := HK2.out; omega
         case rel => exact ⟨(x164002_2), ((XIter.nx a0 x165001_1)), (u164002), H', ⟨by have := HK1.out; have := HK2.out; omega⟩, ⟨rkx HO_164002⟩, ⟨bkx BK155⟩, ⟨bkx BK163⟩, ⟨bkx BK164⟩, ⟨hb4 HB GE155 GE163 GE164 GE168⟩⟩
     ·rw [if_neg c15] at H
      have c15b0 : decide (x165001_1 < (a0.size : Int)) = false := decide_eq_false c15
      clear c15
      replace H := Option.bind_eq_some_iff.mp H
      obtain ⟨⟨t171, t172, t173, t176⟩, A340, H⟩ := H
      replace H : (some (t171, t172, t173, t176)) = some (r1, r2, r3, r4) := H
      have A34 := Aside0.mk A340
      clear A340
      simp only [Option.some.injEq, Prod.mk.injEq] at H
      obtain ⟨rfl, rfl, rfl, rfl⟩ := H
      go_wp2_with (first | ((with_reducible refine gate_dst (N := 32) rfl ?_); refine XIter.next_none (i := .tmp 31) (g := gb164) (s := a0) (x := x165001_1) (N := 32) ?hg ?hd ?ho ?hi ?hb ?h0 ?h1 ?_; (case hg => rfl); (case hd => rfl); (case ho => rfl); (case hi => first | rfl | (go_simp; done) | (go_simp; rfl)); (case hb => exact (show _ = some (Obj.stringIter a0 (x165001_1 : Int).toNat) from by refine bkt ?_; exact BK164.out)); (case h0 => exact of_decide_eq_true (by first | (with_reducible assumption) | assumption)); (case h1 => exact of_decide_eq_false (by first | (with_reducible assumption) | assumption)); intro w35 hs hbox; have n0_ := Aside0.mk (XIter.R_it (rkx HO_164002) (show _ = some (Obj.stringIter a0 (x165001_1 : Int).toNat) from by refine bkt ?_; exact BK164.out) hs); have n1_ := Aside0.mk (XIter.blk_it (show _ = some (Obj.cells #[.int .i64 0, .int .i64 0, .slice none 0 0] 24 (0, 0)) from by refine bkt ?_; exact BK155.out) (show _ = some (Obj.stringIter a0 (x165001_1 : Int).toNat) from by refine bkt ?_; exact BK164.out) hs); have n2_ := Aside0.mk (XIter.blk_it (show _ = some (Obj.cells #[.int .i64 t157, .int .i64 t158, u164002] 24 (0, 0)) from by refine bkt ?_; exact BK163.out) (show _ = some (Obj.stringIter a0 (x165001_1 : Int).toNat) from by refine bkt ?_; exact BK164.out) hs); have n3_ := Aside0.mk (XIter.below_it (hb3 HB GE155 GE163 GE164) GE164.out hs); have n4_ := Aside0.mk (hbox); clear HO_164002; clear BK155; clear BK163; clear HB; clear BK164; have HO_164002 := n0_; have BK155 := n1_; have BK163 := n2_; have HB := n3_; have BK164 := n4_; clear n0_ n1_ n2_ n3_ n4_; clear hs hbox; (try simp only [Act.put, List.setIfInBounds_toArray, List.set_cons_zero, List.set_cons_succ]); have hnb36 := NB163_155.out; have hnc36 := NB155_163.out; have hnb37 := NB163_164.out; have hnc37 := NB164_163.out; have hcz38_0 : w35.cell? ⟨gb163, 0, none⟩ = some (.int .i64 t157) := (blk_cell BK163.out 0).trans rfl; have hcz38_1 : w35.cell? ⟨gb163, 1, none⟩ = some (.int .i64 t158) := (blk_cell BK163.out 1).trans rfl; have hcz38_2 : w35.cell? ⟨gb163, 2, none⟩ = some (u164002) := (blk_cell BK163.out 2).trans rfl; have hfz38_0 := blk_frozen BK163.out 0; have hfz38_1 := blk_frozen BK163.out 1; have hfz38_2 := blk_frozen BK163.out 2; obtain ⟨Ao39, co39, eo39⟩ := Kd.R_slice HO_164002.out; subst eo39) | ((with_reducible refine gate_callee (f := 18) rfl ?_); refine goesL_ (some 68) rfl rfl Try.func18 (by kernel_rfl) rfl #[.agg #[.int .i64 t157, .int .i64 t158, .slice Ao39 x164002_1.length co39], .int .i64 a1] rfl mapx ?_; (with_reducible refine (raster_Enlarge.calls k1 t157 t158 _ _ x164002_1 a1 t171 t172 t173 t176 _ ?side1 ?side2 A34.out).mono ?_); (case side1 => repeat (first | exact (Kd.R_reads' HO_164002.out).2.2 | (with_reducible refine Kd.C_alloc ?_ _) | (with_reducible refine Kd.C_drewN ?_ _) | (with_reducible refine Kd.C_drew ?_))); (case side2 => exact (Kd.R_reads' HO_164002.out).2.1); rintro e w40 ⟨v174, rfl, ho0, hb⟩; refine ⟨_, rfl, ?_⟩; have n0_ := Aside0.mk (Kd.R_elder' (rkx HO_164002) (Kd.R_base ho0) hb); have n1_ := Aside0.mk (Kd.R_lower (Kd.R_new' ho0 (Kd.R_lt (rkx HO_164002))) (below_size (hb3 HB GE155 GE163 GE164))); have n2_ := Aside0.mk (blk_below (bkx BK155) hb); have n3_ := Aside0.mk (blk_below (bkx BK163) hb); have n4_ := Aside0.mk (blk_below (g := gb164) (o := .stringIter a0 (x165001_1 : Int).toNat) (bkx BK164) hb); have n5_ := Aside0.mk (below_step (hb3 HB GE155 GE163 GE164) hb); clear HO_164002; clear BK155; clear BK163; clear BK164; clear HB; have HO_164002 := n0_; have HO175 := n1_; have BK155 := n2_; have BK163 := n3_; have BK164 := n4_; have HB := n5_; clear n0_ n1_ n2_ n3_ n4_ n5_; (try clear hb); (try clear hb2); (try clear hk); (try clear hi); (try clear ho0); have hnb41 := NB155_164.out; have hnc41 := NB164_155.out; have hcz42_0 : w40.cell? ⟨gb155, 0, none⟩ = some (.int .i64 0) := (blk_cell BK155.out 0).trans rfl; have hcz42_1 : w40.cell? ⟨gb155, 1, none⟩ = some (.int .i64 0) := (blk_cell BK155.out 1).trans rfl; have hcz42_2 : w40.cell? ⟨gb155, 2, none⟩ = some (.slice none 0 0) := (blk_cell BK155.out 2).trans rfl; have hfz42_0 := blk_frozen BK155.out 0; have hfz42_1 := blk_frozen BK155.out 1; have hfz42_2 := blk_frozen BK155.out 2; obtain ⟨Ao43, co43, eo43⟩ := Kd.R_slice HO175.out; subst eo43))
      refine bodyPost_ret (results_ct rfl _ _ gb155 24 #[.int .i64 t171, .int .i64 t172, .slice Ao43 t173.length co43] (0, 0) _ rfl (by refine bkt ?_; refine blk_put (cs := #[.int .i64 t171, .int .i64 t172, .slice none 0 0]) ?_ 2 _ rfl; refine bkt ?_; refine blk_put (cs := #[.int .i64 t171, .int .i64 0, .slice none 0 0]) ?_ 1 _ rfl; refine bkt ?_; refine blk_put (cs := #[.int .i64 0, .int .i64 0, .slice none 0 0]) ?_ 0 _ rfl; refine bkt ?_; exact BK155.out) Try.underlying24 rfl (by kernel_rfl)) rfl ?_
      exact ⟨_, by first | rfl | (simp [errW_none, errW_some] <;> rfl) | (simp [*, errW_none, errW_some] <;> rfl), by refine rkt ?_; exact Kd.R_mono (Kd.R_far (p := ⟨gb155, 2, none⟩) (Kd.R_far (p := ⟨gb155, 1, none⟩) (Kd.R_far (p := ⟨gb155, 0, none⟩) (Kd.R_types HO175.out BK155.out (by decide)) (fun _ hk => hk.2) (.int .i64 t171)) (fun _ hk => hk.2) (.int .i64 t172)) (fun _ hk => hk.2) (.slice Ao43 t173.length co43)) (fun _ hk => trivial), by repeat (first | (with_reducible first | exact HB.out | apply below_alloc | apply pw_below_drewN | apply below_drew1 | refine below_set ?_ GE155.out | refine below_set ?_ GE163.out | refine below_set ?_ GE164.out) | exact HB.out)⟩
    ·rw [if_neg c14] at H
     exact absurd H (by simp)
 ·rw [if_neg c4] at H
  have c4b0 : (t156 == 0) = false := beq_eq_false_iff_ne.mpr c4
  have c4b1 : (t156 != 0) = true := bne_iff_ne.mpr c4
  simp only [Option.some.injEq, Prod.mk.injEq] at H
  obtain ⟨rfl, rfl, rfl, rfl⟩ := H
  go_enter Try.func12, Try.ntmps12
  go_wp2_with (first | ((with_reducible refine gate_dst (N := 4) rfl ?_); refine box_event ?hg (N := 4) ?hd (cs := #[.int .i64 0, .int .i64 0, .slice none 0 0]) (t := 24) ?hr ?_; (case hd => rfl); (case hg => rfl); (case hr => first | (go_simp; done) | (go_simp; rfl)); intro gb155 hg w44 hbox hb; have n0_ := Aside0.mk (below_step (hb0 HB) hb); have n1_ := Aside0.mk (hbox); have n2_ := Aside0.mk ((by rw [hg]; exact (below_size (hb0 HB)) : w.heap.size ≤ gb155)); have n3_ := Aside0.mk ((by rw [hg]; exact (below_size (hb0 HB)) : w.heap.size ≤ gb155)); clear HB; have HB := n0_; have BK155 := n1_; have GW155 := n2_; have GE155 := n3_; clear n0_ n1_ n2_ n3_; clear hb hbox hg) | ((with_reducible refine gate_callee (f := 27) rfl ?_); refine goesL_ (some 17) rfl rfl Try.func27 (by kernel_rfl) rfl #[.string a0, .int .i64 a1] rfl mapx ?_; (with_reducible refine (font_check.calls k a0 a1 t156 _ A3.out).mono ?_); rintro e w45 ⟨rfl, hb⟩; refine ⟨_, rfl, ?_⟩; have n0_ := Aside0.mk (blk_below (bkx BK155) hb); have n1_ := Aside0.mk (below_step (hb1 HB GE155) hb); clear BK155; clear HB; have BK155 := n0_; have HB := n1_; clear n0_ n1_; (try clear hb); (try clear hb2); (try clear hk); (try clear hi); have hcz46_0 : w45.cell? ⟨gb155, 0, none⟩ = some (.int .i64 0) := (blk_cell BK155.out 0).trans rfl; have hcz46_1 : w45.cell? ⟨gb155, 1, none⟩ = some (.int .i64 0) := (blk_cell BK155.out 1).trans rfl; have hcz46_2 : w45.cell? ⟨gb155, 2, none⟩ = some (.slice none 0 0) := (blk_cell BK155.out 2).trans rfl; have hfz46_0 := blk_frozen BK155.out 0; have hfz46_1 := blk_frozen BK155.out 1; have hfz46_2 := blk_frozen BK155.out 2))
  refine bodyPost_ret (results_ct rfl _ _ gb155 24 #[.int .i64 0, .int .i64 0, .slice none 0 0] (0, 0) _ rfl (by refine bkt ?_; refine blk_put (cs := #[.int .i64 0, .int .i64 0, .slice none 0 0]) ?_ 2 _ rfl; refine bkt ?_; refine blk_put (cs := #[.int .i64 0, .int .i64 0, .slice none 0 0]) ?_ 1 _ rfl; refine bkt ?_; refine blk_put (cs := #[.int .i64 0, .int .i64 0, .slice none 0 0]) ?_ 0 _ rfl; refine bkt ?_; exact BK155.out) Try.underlying24 rfl (by kernel_rfl)) rfl ?_
  exact ⟨_, by first | rfl | (simp [errW_none, errW_some] <;> rfl) | (simp [*, errW_none, errW_some] <;> rfl), by first | exact Kd.R_nil _ _ _ _ _ | exact Kd.N_nil _ _ _ _ _ | exact Kd.V_nil _ _ _ _ _ | exact Kd.Q_nil _ _ _ _ _ | exact Kd.S_nil _ _ _ _ _, by repeat (first | (with_reducible first | exact HB.out | apply below_alloc | apply pw_below_drewN | apply below_drew1 | refine below_set ?_ GE155.out) | exact HB.out)⟩

end Go.Proofs.Ytghfcdgdbdeomaa.PR
