-- Written by this session's own program (myprint.py).
import Derived.Test.YtbipbbckfmilfaaPRx0
import Derived.Test.YtbipbbckfmilfaaPRx4
namespace Go.Proofs.Ytbipbbckfmilfaa.PR
open Go.RowKit Go.Proofs.YtbipbbckfmilfaaW.PrintWords Go.Proofs.YtbipbbckfmilfaaW.PrintLast Go.Proofs.YtbipbbckfmilfaaW.PrintMore Go.Proofs.Ytbipbbckfmilfaa.XWords Go.Proofs.Ytbipbbckfmilfaa.XShort Go.Proofs.Ytbipbbckfmilfaa.XFn
attribute [local go_sem] max2_int min2_int max_two min_two max_three min_three max_four min_four   -- for this text's walks alone
set_option linter.unusedVariables false
set_option linter.unusedSimpArgs false

/-! ### printing_degradations_2: function 55 -/
def printing_degradations_2.f (k : Nat) (a0_0 : Int) (a0_1 : Int) (l0_2 : List Int) (a1_0 : Int) (a1_1 : Int) (a1_2 : Int) (a1_3 : Int) : Option (Int × Int × List Int) := (printing_Blur.f k a0_0 a0_1 l0_2 a1_1).bind fun bt173 => (some (bt173.1, bt173.2.1, bt173.2.2.1))
theorem printing_degradations_2.mono : ∀ a0 a1 a2 a3 a4 a5 a6 k, LeO (printing_degradations_2.f k a0 a1 a2 a3 a4 a5 a6) (printing_degradations_2.f (k + 1) a0 a1 a2 a3 a4 a5 a6) := by
  intro a0 a1 a2 a3 a4 a5 a6 k
  unfold printing_degradations_2.f
  repeat' first
      | (with_reducible exact printing_Blur.mono _ _ _ _ _)
      | (with_reducible exact LeO.refl _)
      | (with_reducible exact LeO.none _)
      | (with_reducible refine LeO.ite ?_ ?_)
      | (with_reducible refine LeO.bind ?_ (fun _ => ?_))
      | exact printing_Blur.mono _ _ _ _ _
      | exact LeO.none _
      | refine LeO.ite ?_ ?_
      | refine LeO.bind ?_ (fun _ => ?_)
set_option maxHeartbeats 8000000 in
set_option maxRecDepth 100000 in
theorem printing_degradations_2.calls (k : Nat) (a0_0 : Int) (a0_1 : Int) (A0_2 : Option Addr) (c0_2 : Nat) (l0_2 : List Int) (a1_0 : Int) (a1_1 : Int) (a1_2 : Int) (a1_3 : Int) (r1 : Int) (r2 : Int) (r3 : List Int) (w : World) (gb170 : Nat) (hbd_ : w.heap[gb170]? = some (.cells #[.int .i64 a1_0, .int .i64 a1_1, .int .i64 a1_2, .int .u32 a1_3] 38 (0, 0))) (hr0_2 : Kd.C (Kd.int .u8) w A0_2 l0_2.length l0_2) (hc0_2 : l0_2.length ≤ c0_2) (h : printing_degradations_2.f k a0_0 a0_1 l0_2 a1_0 a1_1 a1_2 a1_3 = some (r1, r2, r3)) :
    Calls Try.prog 55 #[.agg #[.int .i64 a0_0, .int .i64 a0_1, .slice A0_2 l0_2.length c0_2], .pointer (some ⟨gb170, 0, none⟩)] w fun e w' => ∃ v2_ : Value, e = .returned (.agg #[.int .i64 r1, .int .i64 r2, v2_]) ∧ Kd.R (Kd.int .u8) 5 w' w.heap.size (fun _ => True) v2_ r3 ∧ Below w.heap.size w w' := by
  have hu38 := Try.underlying38
  have hu24 := Try.underlying24
  have HR0_2 := Aside0.mk hr0_2
  have HC0_2 := Aside0.mk hc0_2
  clear hr0_2 hc0_2
  have HB := Aside0.mk (Below.refl w.heap.size w)
  have BK170 := Aside0.mk hbd_
  have GW170 : Aside0 True := ⟨trivial⟩
  have GE170 : Aside0 True := ⟨trivial⟩
  clear hbd_
  have H : ((printing_Blur.f k a0_0 a0_1 l0_2 a1_1).bind fun bt173 => (some (bt173.1, bt173.2.1, bt173.2.2.1))) = some (r1, r2, r3) := h
  clear h
  replace H := Option.bind_eq_some_iff.mp H
  obtain ⟨⟨t173, t174, t175, t178⟩, A30, H⟩ := H
  replace H : (some (t173, t174, t175)) = some (r1, r2, r3) := H
  have A3 := Aside0.mk A30
  clear A30
  simp only [Option.some.injEq, Prod.mk.injEq] at H
  obtain ⟨rfl, rfl, rfl⟩ := H
  go_enter Try.func55, Try.ntmps55
  go_wp2_with (first | ((with_reducible refine gate_dst (N := 2) rfl ?_); refine box_event ?hg (N := 2) ?hd (cs := #[.int .i64 a0_0, .int .i64 a0_1, .slice A0_2 l0_2.length c0_2]) (t := 24) ?hr ?_; (case hd => rfl); (case hg => rfl); (case hr => first | (go_simp; done) | (go_simp; rfl)); intro gb171 hg w5 hbox hb; have n0_ := Aside0.mk (blk_below (bkx BK170) hb); have n1_ := Aside0.mk (below_step (hb1 HB GE170) hb); have n2_ := Aside0.mk (hbox); have n3_ := Aside0.mk ((by rw [hg]; exact (below_size (hb1 HB GE170)) : w.heap.size ≤ gb171)); have n4_ := Aside0.mk ((by rw [hg]; exact (below_size (hb1 HB GE170)) : w.heap.size ≤ gb171)); have n5_ := Aside0.mk (nel hg BK170 : gb170 ≠ gb171); have n6_ := Aside0.mk (neg hg BK170 : gb171 ≠ gb170); clear BK170; clear HB; have BK170 := n0_; have HB := n1_; have BK171 := n2_; have GW171 := n3_; have GE171 := n4_; have NB170_171 := n5_; have NB171_170 := n6_; clear n0_ n1_ n2_ n3_ n4_ n5_ n6_; clear hb hbox hg) | ((with_reducible refine gate_dst (N := 3) rfl ?_); refine box_event ?hg (N := 3) ?hd (cs := #[.int .i64 0, .int .i64 0, .slice none 0 0]) (t := 24) ?hr ?_; (case hd => rfl); (case hg => rfl); (case hr => first | (go_simp; done) | (go_simp; rfl)); intro gb172 hg w6 hbox hb; have n0_ := Aside0.mk (blk_below (bkx BK170) hb); have n1_ := Aside0.mk (blk_below (bkx BK171) hb); have n2_ := Aside0.mk (below_step (hb2 HB GE170 GE171) hb); have n3_ := Aside0.mk (hbox); have n4_ := Aside0.mk ((by rw [hg]; exact (below_size (hb2 HB GE170 GE171)) : w.heap.size ≤ gb172)); have n5_ := Aside0.mk ((by rw [hg]; exact (below_size (hb2 HB GE170 GE171)) : w.heap.size ≤ gb172)); have n6_ := Aside0.mk (nel hg BK170 : gb170 ≠ gb172); have n7_ := Aside0.mk (neg hg BK170 : gb172 ≠ gb170); have n8_ := Aside0.mk (nel hg BK171 : gb171 ≠ gb172); have n9_ := Aside0.mk (neg hg BK171 : gb172 ≠ gb171); clear BK170; clear BK171; clear HB; have BK170 := n0_; have BK171 := n1_; have HB := n2_; have BK172 := n3_; have GW172 := n4_; have GE172 := n5_; have NB170_172 := n6_; have NB172_170 := n7_; have NB171_172 := n8_; have NB172_171 := n9_; clear n0_ n1_ n2_ n3_ n4_ n5_ n6_ n7_ n8_ n9_; clear hb hbox hg; have hnb7 := NB171_170.out; have hnc7 := NB170_171.out; have hnb8 := NB171_172.out; have hnc8 := NB172_171.out; have hcz9_0 : w6.cell? ⟨gb171, 0, none⟩ = some (.int .i64 a0_0) := (blk_cell BK171.out 0).trans rfl; have hcz9_1 : w6.cell? ⟨gb171, 1, none⟩ = some (.int .i64 a0_1) := (blk_cell BK171.out 1).trans rfl; have hcz9_2 : w6.cell? ⟨gb171, 2, none⟩ = some (.slice A0_2 l0_2.length c0_2) := (blk_cell BK171.out 2).trans rfl; have hfz9_0 := blk_frozen BK171.out 0; have hfz9_1 := blk_frozen BK171.out 1; have hfz9_2 := blk_frozen BK171.out 2; have hnb10 := NB170_172.out; have hnc10 := NB172_170.out; have hcz11_0 : w6.cell? ⟨gb170, 0, none⟩ = some (.int .i64 a1_0) := (blk_cell BK170.out 0).trans rfl; have hcz11_1 : w6.cell? ⟨gb170, 1, none⟩ = some (.int .i64 a1_1) := (blk_cell BK170.out 1).trans rfl; have hcz11_2 : w6.cell? ⟨gb170, 2, none⟩ = some (.int .i64 a1_2) := (blk_cell BK170.out 2).trans rfl; have hcz11_3 : w6.cell? ⟨gb170, 3, none⟩ = some (.int .u32 a1_3) := (blk_cell BK170.out 3).trans rfl; have hfz11_0 := blk_frozen BK170.out 0; have hfz11_1 := blk_frozen BK170.out 1; have hfz11_2 := blk_frozen BK170.out 2; have hfz11_3 := blk_frozen BK170.out 3) | ((with_reducible refine gate_callee (f := 11) rfl ?_); refine goesL_ (some 10) rfl rfl Try.func11 (by kernel_rfl) rfl #[.agg #[.int .i64 a0_0, .int .i64 a0_1, .slice A0_2 l0_2.length c0_2], .int .i64 a1_1] rfl mapx ?_; (with_reducible refine (printing_Blur.calls k a0_0 a0_1 _ _ l0_2 a1_1 t173 t174 t175 t178 _ ?side1 ?side2 A3.out).mono ?_); (case side1 => repeat (first | exact (Kd.C_below HR0_2.out HB.out) | (with_reducible refine Kd.C_alloc ?_ _) | (with_reducible refine Kd.C_drewN ?_ _) | (with_reducible refine Kd.C_drew ?_))); (case side2 => exact HC0_2.out); rintro e w12 ⟨v176, rfl, ho0, hb⟩; refine ⟨_, rfl, ?_⟩; have n0_ := Aside0.mk (Kd.R_lower ho0 (below_size (hb3 HB GE170 GE171 GE172))); have n1_ := Aside0.mk (blk_below (bkx BK170) hb); have n2_ := Aside0.mk (blk_below (bkx BK171) hb); have n3_ := Aside0.mk (blk_below (bkx BK172) hb); have n4_ := Aside0.mk (below_step (hb3 HB GE170 GE171 GE172) hb); clear BK170; clear BK171; clear BK172; clear HB; have HO177 := n0_; have BK170 := n1_; have BK171 := n2_; have BK172 := n3_; have HB := n4_; clear n0_ n1_ n2_ n3_ n4_; (try clear hb); (try clear hb2); (try clear hk); (try clear hi); (try clear ho0)) | ((with_reducible refine gate_dst (N := 4) rfl ?_); refine box_event ?hg (N := 4) ?hd (cs := #[.int .i64 0, .int .i64 0, .slice none 0 0]) (t := 24) ?hr ?_; (case hd => rfl); (case hg => rfl); (case hr => first | (go_simp; done) | (go_simp; rfl)); intro gb179 hg w13 hbox hb; have n0_ := Aside0.mk (Kd.R_below (rkx HO177) hb); have n1_ := Aside0.mk (blk_below (bkx BK170) hb); have n2_ := Aside0.mk (blk_below (bkx BK171) hb); have n3_ := Aside0.mk (blk_below (bkx BK172) hb); have n4_ := Aside0.mk (below_step (hb3 HB GE170 GE171 GE172) hb); have n5_ := Aside0.mk (hbox); have n6_ := Aside0.mk ((by rw [hg]; exact (below_size (hb3 HB GE170 GE171 GE172)) : w.heap.size ≤ gb179)); have n7_ := Aside0.mk ((by rw [hg]; exact (below_size (hb3 HB GE170 GE171 GE172)) : w.heap.size ≤ gb179)); have n8_ := Aside0.mk (nel hg BK170 : gb170 ≠ gb179); have n9_ := Aside0.mk (neg hg BK170 : gb179 ≠ gb170); have n10_ := Aside0.mk (nel hg BK171 : gb171 ≠ gb179); have n11_ := Aside0.mk (neg hg BK171 : gb179 ≠ gb171); have n12_ := Aside0.mk (nel hg BK172 : gb172 ≠ gb179); have n13_ := Aside0.mk (neg hg BK172 : gb179 ≠ gb172); clear HO177; clear BK170; clear BK171; clear BK172; clear HB; have HO177 := n0_; have BK170 := n1_; have BK171 := n2_; have BK172 := n3_; have HB := n4_; have BK179 := n5_; have GW179 := n6_; have GE179 := n7_; have NB170_179 := n8_; have NB179_170 := n9_; have NB171_179 := n10_; have NB179_171 := n11_; have NB172_179 := n12_; have NB179_172 := n13_; clear n0_ n1_ n2_ n3_ n4_ n5_ n6_ n7_ n8_ n9_ n10_ n11_ n12_ n13_; clear hb hbox hg; have hnb14 := NB179_170.out; have hnc14 := NB170_179.out; have hnb15 := NB179_171.out; have hnc15 := NB171_179.out; have hnb16 := NB179_172.out; have hnc16 := NB172_179.out; have hcz17_0 : w13.cell? ⟨gb179, 0, none⟩ = some (.int .i64 0) := (blk_cell BK179.out 0).trans rfl; have hcz17_1 : w13.cell? ⟨gb179, 1, none⟩ = some (.int .i64 0) := (blk_cell BK179.out 1).trans rfl; have hcz17_2 : w13.cell? ⟨gb179, 2, none⟩ = some (.slice none 0 0) := (blk_cell BK179.out 2).trans rfl; have hfz17_0 := blk_frozen BK179.out 0; have hfz17_1 := blk_frozen BK179.out 1; have hfz17_2 := blk_frozen BK179.out 2; obtain ⟨Ao18, co18, eo18⟩ := Kd.R_slice HO177.out; subst eo18; have hcz19_0 : w13.cell? ⟨gb172, 0, none⟩ = some (.int .i64 0) := (blk_cell BK172.out 0).trans rfl; have hcz19_1 : w13.cell? ⟨gb172, 1, none⟩ = some (.int .i64 0) := (blk_cell BK172.out 1).trans rfl; have hcz19_2 : w13.cell? ⟨gb172, 2, none⟩ = some (.slice none 0 0) := (blk_cell BK172.out 2).trans rfl; have hfz19_0 := blk_frozen BK172.out 0; have hfz19_1 := blk_frozen BK172.out 1; have hfz19_2 := blk_frozen BK172.out 2))
  refine bodyPost_ret (results_cell_row rfl _ _ gb172 24 #[.int .i64 t173, .int .i64 t174, .slice Ao18 t175.length co18] (0, 0) _ rfl (by refine bkt ?_; refine blk_put (cs := #[.int .i64 t173, .int .i64 t174, .slice none 0 0]) ?_ 2 _ rfl; refine bkt ?_; refine blk_put (cs := #[.int .i64 t173, .int .i64 0, .slice none 0 0]) ?_ 1 _ rfl; refine bkt ?_; refine blk_put (cs := #[.int .i64 0, .int .i64 0, .slice none 0 0]) ?_ 0 _ rfl; refine bkt ?_; refine blk_far ?_ NB172_179.out _; refine bkt ?_; refine blk_far ?_ NB172_179.out _; refine bkt ?_; refine blk_far ?_ NB172_179.out _; refine bkt ?_; exact BK172.out) Try.underlying24 rfl (by kernel_rfl)) rfl ?_
  exact ⟨_, by first | rfl | (simp [errW_none, errW_some] <;> rfl) | (simp [*, errW_none, errW_some] <;> rfl), by refine rkt ?_; exact Kd.R_mono (Kd.R_far (p := ⟨gb172, 2, none⟩) (Kd.R_far (p := ⟨gb172, 1, none⟩) (Kd.R_far (p := ⟨gb172, 0, none⟩) (Kd.R_far (p := ⟨gb179, 2, none⟩) (Kd.R_far (p := ⟨gb179, 1, none⟩) (Kd.R_far (p := ⟨gb179, 0, none⟩) (Kd.R_types (Kd.R_types HO177.out BK179.out (by decide)) BK172.out (by decide)) (fun _ hk => hk.1.2) (.int .i64 t173)) (fun _ hk => hk.1.2) (.int .i64 t174)) (fun _ hk => hk.1.2) (.slice Ao18 t175.length co18)) (fun _ hk => hk.2) (.int .i64 t173)) (fun _ hk => hk.2) (.int .i64 t174)) (fun _ hk => hk.2) (.slice Ao18 t175.length co18)) (fun _ hk => trivial), by repeat (first | (with_reducible first | exact HB.out | apply below_alloc | apply pw_below_drewN | apply below_drew1 | refine below_set ?_ GE170.out | refine below_set ?_ GE171.out | refine below_set ?_ GE172.out | refine below_set ?_ GE179.out) | exact HB.out)⟩


/-! ### printing_next: function 59 -/
def printing_next.f (a0 : Int) : Option (Int) := some (Go.bits .xor .u32 (Go.bits .xor .u32 (Go.bits .xor .u32 a0 ((a0 * 8192) % 4294967296)) ((Go.bits .xor .u32 a0 ((a0 * 8192) % 4294967296)) / 131072)) (((Go.bits .xor .u32 (Go.bits .xor .u32 a0 ((a0 * 8192) % 4294967296)) ((Go.bits .xor .u32 a0 ((a0 * 8192) % 4294967296)) / 131072)) * 32) % 4294967296))
set_option maxHeartbeats 8000000 in
set_option maxRecDepth 100000 in
theorem printing_next.calls (a0 : Int) (r : Int) (w : World) (h : printing_next.f a0 = some r) :
    Calls Try.prog 59 #[.int .u32 a0] w fun e w' => e = .returned (.int .u32 r) ∧ Drawn0 w w' := by
  have H : (some (Go.bits .xor .u32 (Go.bits .xor .u32 (Go.bits .xor .u32 a0 ((a0 * 8192) % 4294967296)) ((Go.bits .xor .u32 a0 ((a0 * 8192) % 4294967296)) / 131072)) (((Go.bits .xor .u32 (Go.bits .xor .u32 a0 ((a0 * 8192) % 4294967296)) ((Go.bits .xor .u32 a0 ((a0 * 8192) % 4294967296)) / 131072)) * 32) % 4294967296))) = some r := h
  clear h
  obtain rfl := Option.some.inj H
  go_enter Try.func59, Try.ntmps59
  go_wp2
  go_ret
  exact ⟨by first | rfl | (simp; done) | (simp [*]; done), by repeat (first | exact Drawn0.refl _ | apply Drawn0.step)⟩

/-! ### printing_places: function 46 -/
mutual
def printing_places.j0 : Nat → Int → Int → Int → Option (List Int)
  | 0, _, _, _ => none
  | k + 1, x0, x1, x7 => if 0 ≤ x0 then (if (x0 : Int).toNat ≤ 281474976710656 then (printing_places.l0 k x0 x7 (List.replicate (x0 : Int).toNat false) ([] : List Int) x1 0) else (none)) else (none)
def printing_places.l0 : Nat → Int → Int → List Bool → List Int → Int → Int → Option (List Int)
  | 0, _, _, _, _, _, _ => none
  | k + 1, x0, x7, x8, x9, x17, x18 => if x18 < x17 then ((printing_next.f x7).bind fun t163 => (if x0 = 0 then (none) else (printing_places.l1 k x0 t163 x8 x9 (Int.tmod (wrap64 (t163)) x0) x17 x18))) else (some x9)
def printing_places.l1 : Nat → Int → Int → List Bool → List Int → Int → Int → Int → Option (List Int)
  | 0, _, _, _, _, _, _, _ => none
  | k + 1, x0, x7, x8, x9, x10, x17, x18 => if 0 ≤ x10 then (if x10 < (x8.length : Int) then (if rdOf false x8 x10 = true then (if x0 = 0 then (none) else (printing_places.l1 k x0 x7 x8 x9 (Int.tmod (wrap64 (x10 + 1)) x0) x17 x18)) else (if x9.length < 17592186044416 then (printing_places.l0 k x0 x7 (x8.set (x10 : Int).toNat true) (x9 ++ [x10]) x17 (wrap64 (x18 + 1))) else (none))) else (none)) else (none)
end
def printing_places.f (k : Nat) (a0 : Int) (a1 : Int) (a2 : Int) : Option (List Int) := if (Go.bits .xor .u32 a2 2654435769) = 0 then (printing_places.j0 k a0 a1 1) else (printing_places.j0 k a0 a1 (Go.bits .xor .u32 a2 2654435769))
theorem printing_places.mono_l : ∀ k, (∀ y0 y1 y2, LeO (printing_places.j0 k y0 y1 y2) (printing_places.j0 (k + 1) y0 y1 y2)) ∧ (∀ y0 y1 y2 y3 y4 y5, LeO (printing_places.l0 k y0 y1 y2 y3 y4 y5) (printing_places.l0 (k + 1) y0 y1 y2 y3 y4 y5)) ∧ (∀ y0 y1 y2 y3 y4 y5 y6, LeO (printing_places.l1 k y0 y1 y2 y3 y4 y5 y6) (printing_places.l1 (k + 1) y0 y1 y2 y3 y4 y5 y6))
  | 0 => ⟨fun _ _ _ r h => by simp [printing_places.j0] at h, fun _ _ _ _ _ _ r h => by simp [printing_places.l0] at h, fun _ _ _ _ _ _ _ r h => by simp [printing_places.l1] at h⟩
  | k + 1 => by
    obtain ⟨ih0, ih1, ih2⟩ := printing_places.mono_l k
    refine ⟨?_, ?_, ?_⟩
    · intro y0 y1 y2
      unfold printing_places.j0
      repeat' first
      | (with_reducible exact ih0 _ _ _)
      | (with_reducible exact ih1 _ _ _ _ _ _)
      | (with_reducible exact ih2 _ _ _ _ _ _ _)
      | (with_reducible exact LeO.refl _)
      | (with_reducible exact LeO.none _)
      | (with_reducible refine LeO.ite ?_ ?_)
      | (with_reducible refine LeO.bind ?_ (fun _ => ?_))
      | exact ih0 _ _ _
      | exact ih1 _ _ _ _ _ _
      | exact ih2 _ _ _ _ _ _ _
      | exact LeO.none _
      | refine LeO.ite ?_ ?_
      | refine LeO.bind ?_ (fun _ => ?_)
    · intro y0 y1 y2 y3 y4 y5
      unfold printing_places.l0
      repeat' first
      | (with_reducible exact ih0 _ _ _)
      | (with_reducible exact ih1 _ _ _ _ _ _)
      | (with_reducible exact ih2 _ _ _ _ _ _ _)
      | (with_reducible exact LeO.refl _)
      | (with_reducible exact LeO.none _)
      | (with_reducible refine LeO.ite ?_ ?_)
      | (with_reducible refine LeO.bind ?_ (fun _ => ?_))
      | exact ih0 _ _ _
      | exact ih1 _ _ _ _ _ _
      | exact ih2 _ _ _ _ _ _ _
      | exact LeO.none _
      | refine LeO.ite ?_ ?_
      | refine LeO.bind ?_ (fun _ => ?_)
    · intro y0 y1 y2 y3 y4 y5 y6
      unfold printing_places.l1
      repeat' first
      | (with_reducible exact ih0 _ _ _)
      | (with_reducible exact ih1 _ _ _ _ _ _)
      | (with_reducible exact ih2 _ _ _ _ _ _ _)
      | (with_reducible exact LeO.refl _)
      | (with_reducible exact LeO.none _)
      | (with_reducible refine LeO.ite ?_ ?_)
      | (with_reducible refine LeO.bind ?_ (fun _ => ?_))
      | exact ih0 _ _ _
      | exact ih1 _ _ _ _ _ _
      | exact ih2 _ _ _ _ _ _ _
      | exact LeO.none _
      | refine LeO.ite ?_ ?_
      | refine LeO.bind ?_ (fun _ => ?_)
theorem printing_places.mono : ∀ a0 a1 a2 k, LeO (printing_places.f k a0 a1 a2) (printing_places.f (k + 1) a0 a1 a2) := by
  intro a0 a1 a2 k
  obtain ⟨ih0, ih1, ih2⟩ := printing_places.mono_l k
  unfold printing_places.f
  repeat' first
      | (with_reducible exact ih0 _ _ _)
      | (with_reducible exact ih1 _ _ _ _ _ _)
      | (with_reducible exact ih2 _ _ _ _ _ _ _)
      | (with_reducible exact LeO.refl _)
      | (with_reducible exact LeO.none _)
      | (with_reducible refine LeO.ite ?_ ?_)
      | (with_reducible refine LeO.bind ?_ (fun _ => ?_))
      | exact ih0 _ _ _
      | exact ih1 _ _ _ _ _ _
      | exact ih2 _ _ _ _ _ _ _
      | exact LeO.none _
      | refine LeO.ite ?_ ?_
      | refine LeO.bind ?_ (fun _ => ?_)
set_option maxHeartbeats 8000000 in
set_option maxRecDepth 100000 in
theorem printing_places.calls (k : Nat) (a0 : Int) (a1 : Int) (a2 : Int) (r : List Int) (w : World) (h : printing_places.f k a0 a1 a2 = some r) :
    Calls Try.prog 46 #[.int .i64 a0, .int .i64 a1, .int .u32 a2] w fun e w' => ∃ v0_ : Value, e = .returned (v0_) ∧ Kd.R (Kd.int .i64) 3 w' w.heap.size (fun _ => True) v0_ r ∧ Below w.heap.size w w' := by
  have HB := Aside0.mk (Below.refl w.heap.size w)
  have H : (if (Go.bits .xor .u32 a2 2654435769) = 0 then (printing_places.j0 k a0 a1 1) else (printing_places.j0 k a0 a1 (Go.bits .xor .u32 a2 2654435769))) = some r := h
  clear h
  have HC4 := Aside0.mk H
  clear H
  go_enter Try.func46, Try.ntmps46
  go_upto_if 14 with (fail)
  go_cut [7] (fun v7 wc => ∃ (kq : Nat) (x7_3 : Int), v7 = .int .u32 x7_3 ∧ Aside0 (printing_places.j0 kq a0 a1 x7_3 = some r) ∧ Aside0 (kq ≤ k) ∧ Aside0 (Below w.heap.size w wc))
  case first =>
    have H := HC4.out
    clear HC4
    by_cases c5 : (Go.bits .xor .u32 a2 2654435769) = 0
    · rw [if_pos c5] at H
      have c5b0 : ((Go.bits .xor .u32 a2 2654435769) == 0) = true := beq_iff_eq.mpr c5
      have c5b1 : ((Go.bits .xor .u32 a2 2654435769) != 0) = false := bne_eq_false_iff_eq.mpr c5
      clear c5
      (first | rw [c5b0] | (simp only [i64_w, i32_w]; rw [c5b0]) | skip)
      have H' := Aside0.mk H
      clear H
      go_wp2
      go_meet
      case rel => exact ⟨_, (1), (by first | rfl | (simp; done) | (simp [*]; done)), H', ⟨by first | omega | exact Nat.le_refl _⟩, ⟨hb0 HB⟩⟩
    · rw [if_neg c5] at H
      have c5b0 : ((Go.bits .xor .u32 a2 2654435769) == 0) = false := beq_eq_false_iff_ne.mpr c5
      have c5b1 : ((Go.bits .xor .u32 a2 2654435769) != 0) = true := bne_iff_ne.mpr c5
      (first | rw [c5b0] | (simp only [i64_w, i32_w]; rw [c5b0]) | skip)
      have H' := Aside0.mk H
      clear H
      go_wp2
      go_meet
      case rel => exact ⟨_, (Go.bits .xor .u32 a2 2654435769), (by first | rfl | (simp; done) | (simp [*]; done)), H', ⟨by first | omega | exact Nat.le_refl _⟩, ⟨hb0 HB⟩⟩
  case rest =>
    clear HC4
    (try clear p2); (try clear c4); (try clear c5); (try clear c5b0); (try clear c5b1)
    obtain ⟨kq, x7_3, rfl, HA, HJ3, HB⟩ := hcut
    cases kq with
    | zero => exact absurd HA.out (by simp [printing_places.j0])
    | succ kj3 =>
      have H := HA.out
      clear HA
      simp only [printing_places.j0] at H
      by_cases c6 : 0 ≤ a0
      · rw [if_pos c6] at H
        have c6b0 := eq_true c6
        have c6b1 : decide (0 ≤ a0) = true := decide_eq_true c6
        clear c6
        by_cases c7 : (a0 : Int).toNat ≤ 281474976710656
        · rw [if_pos c7] at H
          have c7b0 := eq_true c7
          have c7b1 : decide ((a0 : Int).toNat ≤ 281474976710656) = true := decide_eq_true c7
          clear c7
          obtain ⟨y160, hy160⟩ : ∃ y_ : List Bool, y_ = (List.replicate (a0 : Int).toNat false) := ⟨_, rfl⟩
          replace H : (printing_places.l0 kj3 a0 x7_3 y160 ([] : List Int) a1 0) = some r := by first | (rw [hy160]; with_reducible exact H) | (have H2_ := (Option.bind_some _ _).symm.trans H; rw [hy160]; with_reducible exact H2_) | (have H2_ := (Option.bind_some _ _).symm.trans H; with_reducible exact H2_) | with_reducible exact H | (rw [hy160]; exact H) | exact H
          have Ny160 := Aside0.mk hy160
          clear hy160
          have H' := Aside0.mk H
          clear H
          go_wp2_with (first | ((with_reducible refine gate_dst (N := 16) rfl ?_); refine Kd.R_make Kd.bool _ 4 rfl (N := 16) rfl 31 _ _ rfl a0 rfl rfl Try.underlying31 (.bool false) 1 info4 rfl (by decide) (by omega) false (ok := fun _ => True) (okp := fun _ => True) rfl (fun _ hk => hk) trivial (of_decide_eq_true (by first | (with_reducible assumption) | assumption)) (Nat.le_trans (Nat.mul_le_mul_right _ (of_decide_eq_true (by first | (with_reducible assumption) | assumption) : a0.toNat ≤ 281474976710656)) (by omega)) (Below.refl _ _) (Nat.le_refl _) ?_; intro v161 w8 ho9 hb hg_ hnew_; clear hg_ hnew_; (first | rw [← Ny160.out] at ho9 | (simp only [Int.reduceToNat] at ho9; rw [← Ny160.out] at ho9)); have n0_ := Aside0.mk (Kd.R_lower ho9 (below_size (hb0 HB))); have n1_ := Aside0.mk (below_step (hb0 HB) hb); clear HB; have HO162 := n0_; have HB := n1_; clear n0_ n1_; clear hb ho9))
          go_loopg [7, 9, 18] kj3 (fun kq v7 v9 v18 w' => ∃ (x7_2 : Int) (x8_2 : List Bool) (x9_2 : List Int) (x18_2 : Int), v7 = .int .u32 x7_2 ∧ v18 = .int .i64 x18_2 ∧ Aside0 (printing_places.l0 kq a0 x7_2 x8_2 x9_2 a1 x18_2 = some r) ∧ Aside0 (kq ≤ kj3) ∧ Aside0 (Kd.R Kd.bool 4 w' w.heap.size (fun _ => True) v161 x8_2) ∧ Aside0 (Kd.R (Kd.int .i64) 3 w' w.heap.size (fun _ => True) v9 x9_2) ∧ Aside0 (Below w.heap.size w w'))
          case atStart => exact ⟨(x7_3), (y160), (([] : List Int)), (0), (by first | rfl | (simp; done) | (simp [*]; done)), (by first | rfl | (simp; done) | (simp [*]; done)), H', ⟨Nat.le_refl _⟩, ⟨rkx HO162⟩, ⟨by first | exact Kd.R_nil _ _ _ _ _ | exact Kd.N_nil _ _ _ _ _ | exact Kd.V_nil _ _ _ _ _ | exact Kd.Q_nil _ _ _ _ _ | exact Kd.S_nil _ _ _ _ _⟩, ⟨hb0 HB⟩⟩
          case round =>
            clear H'
            (try clear p2); (try clear c4); (try clear c5); (try clear c5b0); (try clear c5b1); (try clear c6); (try clear c6b0); (try clear c6b1); (try clear c7); (try clear c7b0); (try clear c7b1); (try clear p2)
            obtain ⟨x7_2, x8_2, x9_2, x18_2, rfl, rfl, HA, HK2, HO_8, HO_9, HB⟩ := hrel
            cases gk with
            | zero => exact absurd HA.out (by simp [printing_places.l0])
            | succ k2 =>
              have H := HA.out
              clear HA
              simp only [printing_places.l0] at H
              by_cases c10 : x18_2 < a1
              · rw [if_pos c10] at H
                have c10b0 : decide (x18_2 < a1) = true := decide_eq_true c10
                clear c10
                replace H := Option.bind_eq_some_iff.mp H
                obtain ⟨t163, A110, H⟩ := H
                replace H : (if a0 = 0 then (none) else (printing_places.l1 k2 a0 t163 x8_2 x9_2 (Int.tmod (wrap64 (t163)) a0) a1 x18_2)) = some r := H
                have A11 := Aside0.mk A110
                clear A110
                by_cases c12 : a0 = 0
                · rw [if_pos c12] at H
                  exact absurd H (by simp)
                · rw [if_neg c12] at H
                  have c12b0 : (a0 == 0) = false := beq_eq_false_iff_ne.mpr c12
                  have c12b1 : (a0 != 0) = true := bne_iff_ne.mpr c12
                  have H' := Aside0.mk H
                  clear H
                  go_wp2_with (first | ((with_reducible refine gate_callee (f := 59) rfl ?_); refine goesL_ (some 21) rfl rfl Try.func59 (by kernel_rfl) rfl #[.int .u32 x7_2] rfl mapx ?_; (with_reducible refine (printing_next.calls x7_2 t163 _ A11.out).mono ?_); rintro e w' ⟨rfl, ⟨nd, rfl⟩⟩; refine ⟨_, rfl, ?_⟩))
                  go_loopg [10] k2 (fun kq v10 w' => ∃ (x10_3 : Int), v10 = .int .i64 x10_3 ∧ Aside0 (printing_places.l1 kq a0 t163 x8_2 x9_2 x10_3 a1 x18_2 = some r) ∧ Aside0 (kq ≤ k2) ∧ Aside0 (Kd.R Kd.bool 4 w' w.heap.size (fun _ => True) v161 x8_2) ∧ Aside0 (Kd.R (Kd.int .i64) 3 w' w.heap.size (fun _ => True) u9 x9_2) ∧ Aside0 (Below w.heap.size w w'))
                  case atStart => exact ⟨(Int.tmod (wrap64 (t163)) a0), (by first | rfl | (simp; done) | (simp [*]; done)), H', ⟨Nat.le_refl _⟩, ⟨rkx HO_8⟩, ⟨rkx HO_9⟩, ⟨hb0 HB⟩⟩
                  case round =>
                    clear H'
                    (try clear c1); (try clear p2); (try clear c4); (try clear c5); (try clear c5b0); (try clear c5b1); (try clear c6); (try clear c6b0); (try clear c6b1); (try clear p6); (try clear c7); (try clear c7b0); (try clear c7b1); (try clear c10); (try clear c10b0); (try clear c12); (try clear c12b0); (try clear c12b1); (try clear p2)
                    obtain ⟨x10_3, rfl, HA, HK3, HO_8, HO_9, HB⟩ := hrel
                    cases gk with
                    | zero => exact absurd HA.out (by simp [printing_places.l1])
                    | succ k3 =>
                      have H := HA.out
                      clear HA
                      simp only [printing_places.l1] at H
                      by_cases c13 : 0 ≤ x10_3
                      · rw [if_pos c13] at H
                        have c13b0 : decide (0 ≤ x10_3) = true := decide_eq_true c13
                        clear c13
                        by_cases c14 : x10_3 < (x8_2.length : Int)
                        · rw [if_pos c14] at H
                          have c14b0 : decide (x10_3 < (x8_2.length : Int)) = true := decide_eq_true c14
                          clear c14
                          obtain ⟨bq15, hbq15⟩ : ∃ b_ : Bool, b_ = (rdOf false x8_2 x10_3) := ⟨_, rfl⟩
                          replace H : (if bq15 = true then (if a0 = 0 then (none) else (printing_places.l1 k3 a0 t163 x8_2 x9_2 (Int.tmod (wrap64 (x10_3 + 1)) a0) a1 x18_2)) else (if x9_2.length < 17592186044416 then (printing_places.l0 k3 a0 t163 (x8_2.set (x10_3 : Int).toNat true) (x9_2 ++ [x10_3]) a1 (wrap64 (x18_2 + 1))) else (none))) = some r := by rw [← hbq15] at H; exact H
                          have Nbq15 := Aside0.mk hbq15
                          clear hbq15
                          by_cases c16 : bq15 = true
                          · subst c16
                            have H1 : (if a0 = 0 then (none) else (printing_places.l1 k3 a0 t163 x8_2 x9_2 (Int.tmod (wrap64 (x10_3 + 1)) a0) a1 x18_2)) = some r := by rw [if_pos rfl] at H; exact H
                            clear H
                            have H := H1
                            clear H1
                            by_cases c17 : a0 = 0
                            · rw [if_pos c17] at H
                              exact absurd H (by simp)
                            · rw [if_neg c17] at H
                              have c17b0 : (a0 == 0) = false := beq_eq_false_iff_ne.mpr c17
                              have c17b1 : (a0 != 0) = true := bne_iff_ne.mpr c17
                              have H' := Aside0.mk H
                              clear H
                              obtain ⟨Ao18, co18, eo18⟩ := Kd.R_slice HO_8.out
                              subst eo18
                              have p164 : 0 ≤ (x10_3 : Int) := of_decide_eq_true (by first | (with_reducible assumption) | assumption)
                              have q164 : x10_3 < (x8_2.length : Int) := of_decide_eq_true (by first | (with_reducible assumption) | assumption)
                              obtain ⟨ad164, e164, hx164_0⟩ := Kd.at_bool (Kd.R_reads' HO_8.out).2.2 x10_3 p164 q164
                              (try rw [← Nbq15.out] at hx164_0)
                              cases e164
                              replace p164 := eq_true p164
                              replace q164 := eq_true q164
                              go_wp2
                              go_roundg k3
                              case measure => have := HJ3.out; have := HK2.out; have := HK3.out; omega
                              case rel => exact ⟨(Int.tmod (wrap64 (x10_3 + 1)) a0), (by first | rfl | (simp; done) | (simp [*]; done)), H', ⟨by have := HJ3.out; have := HK2.out; have := HK3.out; omega⟩, ⟨rkx HO_8⟩, ⟨rkx HO_9⟩, ⟨hb0 HB⟩⟩
                          · replace c16 := Bool.eq_false_iff.mpr c16
                            subst c16
                            have H1 : (if x9_2.length < 17592186044416 then (printing_places.l0 k3 a0 t163 (x8_2.set (x10_3 : Int).toNat true) (x9_2 ++ [x10_3]) a1 (wrap64 (x18_2 + 1))) else (none)) = some r := by rw [if_neg (show ¬ (false = true) by decide)] at H; exact H
                            clear H
                            have H := H1
                            clear H1
                            obtain ⟨y165, hy165⟩ : ∃ y_ : List Bool, y_ = (x8_2.set (x10_3 : Int).toNat true) := ⟨_, rfl⟩
                            replace H : (if x9_2.length < 17592186044416 then (printing_places.l0 k3 a0 t163 y165 (x9_2 ++ [x10_3]) a1 (wrap64 (x18_2 + 1))) else (none)) = some r := by first | (rw [hy165]; with_reducible exact H) | (have H2_ := (Option.bind_some _ _).symm.trans H; rw [hy165]; with_reducible exact H2_) | (have H2_ := (Option.bind_some _ _).symm.trans H; with_reducible exact H2_) | with_reducible exact H | (rw [hy165]; exact H) | exact H
                            have Ny165 := Aside0.mk hy165
                            clear hy165
                            by_cases c20 : x9_2.length < 17592186044416
                            · rw [if_pos c20] at H
                              have LMc20 := Aside0.mk c20
                              clear c20
                              obtain ⟨y166, hy166⟩ : ∃ y_ : List Int, y_ = (x9_2 ++ [x10_3]) := ⟨_, rfl⟩
                              replace H : (printing_places.l0 k3 a0 t163 y165 y166 a1 (wrap64 (x18_2 + 1))) = some r := by first | (rw [hy166]; with_reducible exact H) | (have H2_ := (Option.bind_some _ _).symm.trans H; rw [hy166]; with_reducible exact H2_) | (have H2_ := (Option.bind_some _ _).symm.trans H; with_reducible exact H2_) | with_reducible exact H | (rw [hy166]; exact H) | exact H
                              have Ny166 := Aside0.mk hy166
                              clear hy166
                              have H' := Aside0.mk H
                              clear H
                              obtain ⟨Ao21, co21, eo21⟩ := Kd.R_slice HO_8.out
                              subst eo21
                              have p164 : 0 ≤ (x10_3 : Int) := of_decide_eq_true (by first | (with_reducible assumption) | assumption)
                              have q164 : x10_3 < (x8_2.length : Int) := of_decide_eq_true (by first | (with_reducible assumption) | assumption)
                              obtain ⟨ad164, e164, hx164_0⟩ := Kd.at_bool (Kd.R_reads' HO_8.out).2.2 x10_3 p164 q164
                              (try rw [← Nbq15.out] at hx164_0)
                              cases e164
                              replace p164 := eq_true p164
                              replace q164 := eq_true q164
                              have p19 : 0 ≤ (x10_3 : Int) := of_decide_eq_true (by first | (with_reducible assumption) | assumption)
                              have q19 : (x10_3 : Int) < ((x8_2.length : Int) : Int) := of_decide_eq_true (by first | (with_reducible assumption) | assumption)
                              obtain ⟨go19, co19, eo19, gb19, gl19, cl19, HG19⟩ := Kd.R_form HO_8.out (by omega)
                              (first | cases eo19 | (injection eo19 with ea_ en_ ec_; (first | subst ea_ | (injection ea_ with ea_; subst ea_)); subst ec_; clear en_))
                              have GB19 := Aside0.mk gb19
                              have GG19 := Aside0.mk HG19
                              clear gb19 gl19 HG19
                              (first | simp only [add_plain] at hx164_0 | skip)
                              obtain ⟨hx19_0, hf19_0⟩ := Kd.R_celln false HO_8.out (x10_3 : Int) p19 q19
                              replace p19 := eq_true p19
                              replace q19 := eq_true q19
                              have HP22 := Kd.R_putg HO_8.out (x10_3 : Int) true
                              go_wp2_with (first | ((with_reducible refine gate_store (t := 4) (p := 36) rfl ?_); refine store_event (t := 4) (p := 36) (v := ?vo_w23) (w1 := (wr.setCell ⟨go19, (x10_3 : Int).toNat, none⟩ (.bool true))) ?hg ?ho ?hn ?hr ?_; (case ho => rfl); (case hg => rfl); (case hn => rfl); (case hr => first | (go_simp; done) | (go_simp; rfl)); intro w23 hw; have hg : wr.grownBy w23 (some go19) := (by rw [hw]; exact HP22.2); have hp_ : Kd.R Kd.bool 4 w23 w.heap.size (fun _ => True) (.slice (some ⟨go19, 0, none⟩) x8_2.length co21) y165 := (by rw [hw, Ny165.out]; exact HP22.1); clear HP22; have n0_ := Aside0.mk (hp_); have n1_ := Aside0.mk (Kd.R_over' (v := (.slice (some ⟨go19, 0, none⟩) x8_2.length co21)) (rkx HO_9) (Kd.R_typed HO_8.out) (by decide) hg); have n2_ := Aside0.mk ((by rw [hw]; exact below_set (HB.out) GB19.out : Below w.heap.size w w23)); clear HO_8; clear HO_9; clear HB; have HO_8 := n0_; have HO_9 := n1_; have HB := n2_; clear n0_ n1_ n2_; clear hg hw hp_) | ((with_reducible refine gate_builtin (b := .append) (xs := #[.tmp 37, .tmp 39]) rfl ?_); at_builtin; refine Kd.R_append (Kd.int .i64) (w0 := w) w.heap.size rfl (.tmp 37) (.tmp 39) 51 3 (.int .i64 0) 8 rfl Try.underlying51 info3 rfl (by decide) (by omega) u9 x9_2 x10_3 [.int .i64 x10_3] (fun _ => True) (fun _ => False) rfl rfl ?aP (fun _ hk => hk.elim) ?aF ?aO ?aB ?aS ?aL ?_; (case aP => exact rfl); (case aB => exact (hb0 HB)); (case aF => exact (fun _ _ => trivial)); (case aO => exact (rkx HO_9)); (case aS => exact (below_size (hb0 HB))); (case aL => have := LMc20.out; omega); intro v167 w24 ho hb hg hat; rw [← Ny166.out] at ho; have n0_ := Aside0.mk (Kd.R_over' (rkx HO_8) (Kd.R_typed (rkx HO_9)) (by decide) hg); have n1_ := Aside0.mk (hb); have n2_ := Aside0.mk (ho); clear HO_8; clear HB; clear HO_9; have HO_8 := n0_; have HB := n1_; have HO168 := n2_; clear n0_ n1_ n2_; clear ho hb hg hat))
                              go_roundg k3
                              case measure => have := HJ3.out; have := HK2.out; have := HK3.out; omega
                              case rel => exact ⟨(t163), (y165), (y166), (wrap64 (x18_2 + 1)), (by first | rfl | (simp; done) | (simp [*]; done)), (by first | rfl | (simp; done) | (simp [*]; done)), H', ⟨by have := HJ3.out; have := HK2.out; have := HK3.out; omega⟩, ⟨rkx HO_8⟩, ⟨rkx HO168⟩, ⟨hb0 HB⟩⟩
                            · rw [if_neg c20] at H
                              exact absurd H (by simp)
                        · rw [if_neg c14] at H
                          exact absurd H (by simp)
                      · rw [if_neg c13] at H
                        exact absurd H (by simp)
              · rw [if_neg c10] at H
                have c10b0 : decide (x18_2 < a1) = false := decide_eq_false c10
                clear c10
                obtain rfl := Option.some.inj H
                go_wp2
                go_ret
                exact ⟨_, by first | rfl | (simp [errW_none, errW_some] <;> rfl) | (simp [*, errW_none, errW_some] <;> rfl), by refine rkt ?_; exact HO_9.out, by repeat (first | (with_reducible first | exact HB.out | apply below_alloc | apply pw_below_drewN | apply below_drew1) | exact HB.out)⟩
        · rw [if_neg c7] at H
          exact absurd H (by simp)
      · rw [if_neg c6] at H
        exact absurd H (by simp)

end Go.Proofs.Ytbipbbckfmilfaa.PR
