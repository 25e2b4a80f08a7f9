-- Written by this session's own program (myprint.py).
import Derived.Test.YtbipbbckfmilfaaPRx0
import Derived.Test.YtbipbbckfmilfaaPRx1
import Derived.Test.YtbipbbckfmilfaaPRx5
namespace Go.Proofs.Ytbipbbckfmilfaa.PR
open Go.RowKit Go.Proofs.YtbipbbckfmilfaaW.PrintWords Go.Proofs.YtbipbbckfmilfaaW.PrintLast Go.Proofs.YtbipbbckfmilfaaW.PrintMore Go.Proofs.Ytbipbbckfmilfaa.XWords Go.Proofs.Ytbipbbckfmilfaa.XShort Go.Proofs.Ytbipbbckfmilfaa.XFn
attribute [local go_sem] max2_int min2_int max_two min_two max_three min_three max_four min_four   -- for this text's walks alone
set_option linter.unusedVariables false
set_option linter.unusedSimpArgs false

/-! ### printing_degradations_3: function 56 -/
def printing_degradations_3.l0 : Nat → List Int → Int → Int → Int → Int → List Int → Option (Int × Int × List Int)
  | 0, _, _, _, _, _, _ => none
  | k + 1, x22, x23, x24, x196000, x196001, x196002 => if x24 < x23 then (if 0 ≤ x24 then (if x24 < (x22.length : Int) then (if 0 ≤ (rd x22 x24) then (if (rd x22 x24) < (x196002.length : Int) then (printing_degradations_3.l0 k x22 x23 (wrap64 (x24 + 1)) x196000 x196001 (x196002.set ((rd x22 x24) : Int).toNat ((255 - (rd x196002 (rd x22 x24))) % 256))) else (none)) else (none)) else (none)) else (none)) else (some (x196000, x196001, x196002))
def printing_degradations_3.f (k : Nat) (a0_0 : Int) (a0_1 : Int) (l0_2 : List Int) (a1_0 : Int) (a1_1 : Int) (a1_2 : Int) (a1_3 : Int) : Option (Int × Int × List Int) := (slices_Clone_uint8_uint8.f l0_2).bind fun t192 => ((printing_places.f k (l0_2.length : Int) a1_2 a1_3).bind fun t196 => (printing_degradations_3.l0 k t196 (t196.length : Int) 0 a0_0 a0_1 t192))
theorem printing_degradations_3.mono_l : ∀ k, (∀ y0 y1 y2 y3 y4 y5, LeO (printing_degradations_3.l0 k y0 y1 y2 y3 y4 y5) (printing_degradations_3.l0 (k + 1) y0 y1 y2 y3 y4 y5))
  | 0 => fun _ _ _ _ _ _ r h => by simp [printing_degradations_3.l0] at h
  | k + 1 => by
    have ih0 := printing_degradations_3.mono_l k
    · intro y0 y1 y2 y3 y4 y5
      unfold printing_degradations_3.l0
      repeat' first
      | (with_reducible exact ih0 _ _ _ _ _ _)
      | (with_reducible exact printing_places.mono _ _ _ _)
      | (with_reducible exact LeO.refl _)
      | (with_reducible exact LeO.none _)
      | (with_reducible refine LeO.ite ?_ ?_)
      | (with_reducible refine LeO.bind ?_ (fun _ => ?_))
      | exact ih0 _ _ _ _ _ _
      | exact printing_places.mono _ _ _ _
      | exact LeO.none _
      | refine LeO.ite ?_ ?_
      | refine LeO.bind ?_ (fun _ => ?_)
theorem printing_degradations_3.mono : ∀ a0 a1 a2 a3 a4 a5 a6 k, LeO (printing_degradations_3.f k a0 a1 a2 a3 a4 a5 a6) (printing_degradations_3.f (k + 1) a0 a1 a2 a3 a4 a5 a6) := by
  intro a0 a1 a2 a3 a4 a5 a6 k
  have ih0 := printing_degradations_3.mono_l k
  unfold printing_degradations_3.f
  repeat' first
      | (with_reducible exact ih0 _ _ _ _ _ _)
      | (with_reducible exact printing_places.mono _ _ _ _)
      | (with_reducible exact LeO.refl _)
      | (with_reducible exact LeO.none _)
      | (with_reducible refine LeO.ite ?_ ?_)
      | (with_reducible refine LeO.bind ?_ (fun _ => ?_))
      | exact ih0 _ _ _ _ _ _
      | exact printing_places.mono _ _ _ _
      | exact LeO.none _
      | refine LeO.ite ?_ ?_
      | refine LeO.bind ?_ (fun _ => ?_)
def printing_degradations_3.T1 : Bool × List (List Nat × List Nat) := (true, [([], []), ([0], [0]), ([], []), ([2], [2]), ([], []), ([4], [4]), ([5], [5]), ([1, 3, 6], [1, 3, 6]), ([], []), ([8, 7, 6, 0, 1, 2, 3, 4, 5, 6, 7, 8], [7, 8])])
def printing_degradations_3.B1 : List Nat := [0, 1, 0, 4, 0, 16, 48, 127, 0, 511]
theorem printing_degradations_3.tab1 : rtab .any (opsOf Try.f56 1) = printing_degradations_3.T1 := by kernel_rfl
theorem printing_degradations_3.bits1 : waitsOk printing_degradations_3.T1.2 printing_degradations_3.B1 = true := by kernel_rfl
def printing_degradations_3.T5 : Bool × List (List Nat × List Nat) := (true, [([], []), ([0], [0]), ([], []), ([], []), ([3], [3]), ([], []), ([4, 5], [4, 5]), ([6], [6]), ([7], [7]), ([1, 2, 0, 1, 2, 3, 4, 5, 6, 7, 8], [1, 2]), ([9, 8, 0, 1, 2, 3, 4, 5, 6, 7, 8], [8, 9])])
def printing_degradations_3.B5 : List Nat := [0, 1, 0, 0, 8, 0, 56, 120, 248, 511, 1023]
theorem printing_degradations_3.tab5 : rtab .any (opsOf Try.f56 5) = printing_degradations_3.T5 := by kernel_rfl
theorem printing_degradations_3.bits5 : waitsOk printing_degradations_3.T5.2 printing_degradations_3.B5 = true := by kernel_rfl
set_option maxHeartbeats 8000000 in
set_option maxRecDepth 100000 in
theorem printing_degradations_3.calls (k : Nat) (a0_0 : Int) (a0_1 : Int) (A0_2 : Option Addr) (c0_2 : Nat) (l0_2 : List Int) (a1_0 : Int) (a1_1 : Int) (a1_2 : Int) (a1_3 : Int) (r1 : Int) (r2 : Int) (r3 : List Int) (w : World) (gb189 : Nat) (hbd_ : w.heap[gb189]? = some (.cells #[.int .i64 a1_0, .int .i64 a1_1, .int .i64 a1_2, .int .u32 a1_3] 38 (0, 0))) (hr0_2 : Kd.C (Kd.int .u8) w A0_2 l0_2.length l0_2) (hc0_2 : l0_2.length ≤ c0_2) (h : printing_degradations_3.f k a0_0 a0_1 l0_2 a1_0 a1_1 a1_2 a1_3 = some (r1, r2, r3)) :
    Calls Try.prog 56 #[.agg #[.int .i64 a0_0, .int .i64 a0_1, .slice A0_2 l0_2.length c0_2], .pointer (some ⟨gb189, 0, none⟩)] w fun e w' => ∃ v2_ : Value, e = .returned (.agg #[.int .i64 r1, .int .i64 r2, v2_]) ∧ Kd.R (Kd.int .u8) 5 w' w.heap.size (fun _ => True) v2_ r3 ∧ Below w.heap.size w w' := by
  have hu38 := Try.underlying38
  have hu24 := Try.underlying24
  have HR0_2 := Aside0.mk hr0_2
  have HC0_2 := Aside0.mk hc0_2
  clear hr0_2 hc0_2
  have HB := Aside0.mk (Below.refl w.heap.size w)
  have BK189 := Aside0.mk hbd_
  have GW189 : Aside0 True := ⟨trivial⟩
  have GE189 : Aside0 True := ⟨trivial⟩
  clear hbd_
  have H : ((slices_Clone_uint8_uint8.f l0_2).bind fun t192 => ((printing_places.f k (l0_2.length : Int) a1_2 a1_3).bind fun t196 => (printing_degradations_3.l0 k t196 (t196.length : Int) 0 a0_0 a0_1 t192))) = some (r1, r2, r3) := h
  clear h
  replace H := Option.bind_eq_some_iff.mp H
  obtain ⟨t192, A30, H⟩ := H
  replace H : ((printing_places.f k (l0_2.length : Int) a1_2 a1_3).bind fun t196 => (printing_degradations_3.l0 k t196 (t196.length : Int) 0 a0_0 a0_1 t192)) = some (r1, r2, r3) := H
  have A3 := Aside0.mk A30
  clear A30
  replace H := Option.bind_eq_some_iff.mp H
  obtain ⟨t196, A40, H⟩ := H
  replace H : (printing_degradations_3.l0 k t196 (t196.length : Int) 0 a0_0 a0_1 t192) = some (r1, r2, r3) := H
  have A4 := Aside0.mk A40
  clear A40
  have H' := Aside0.mk H
  clear H
  go_enter Try.func56, Try.ntmps56
  try go_wp2_with (first | ((with_reducible refine gate_dst (N := 2) rfl ?_); refine box_event ?hg (N := 2) ?hd (cs := #[.int .i64 a0_0, .int .i64 a0_1, .slice A0_2 l0_2.length c0_2]) (t := 24) ?hr ?_; (case hd => rfl); (case hg => rfl); (case hr => first | (go_simp; done) | (go_simp; rfl)); intro gb190 hg w6 hbox hb; have n0_ := Aside0.mk (blk_below (bkx BK189) hb); have n1_ := Aside0.mk (below_step (hb1 HB GE189) hb); have n2_ := Aside0.mk (hbox); have n3_ := Aside0.mk ((by rw [hg]; exact (below_size (hb1 HB GE189)) : w.heap.size ≤ gb190)); have n4_ := Aside0.mk ((by rw [hg]; exact (below_size (hb1 HB GE189)) : w.heap.size ≤ gb190)); have n5_ := Aside0.mk (nel hg BK189 : gb189 ≠ gb190); have n6_ := Aside0.mk (neg hg BK189 : gb190 ≠ gb189); clear BK189; clear HB; have BK189 := n0_; have HB := n1_; have BK190 := n2_; have GW190 := n3_; have GE190 := n4_; have NB189_190 := n5_; have NB190_189 := n6_; clear n0_ n1_ n2_ n3_ n4_ n5_ n6_; clear hb hbox hg) | ((with_reducible refine gate_dst (N := 3) rfl ?_); refine box_event ?hg (N := 3) ?hd (cs := #[.int .i64 0, .int .i64 0, .slice none 0 0]) (t := 24) ?hr ?_; (case hd => rfl); (case hg => rfl); (case hr => first | (go_simp; done) | (go_simp; rfl)); intro gb191 hg w7 hbox hb; have n0_ := Aside0.mk (blk_below (bkx BK189) hb); have n1_ := Aside0.mk (blk_below (bkx BK190) hb); have n2_ := Aside0.mk (below_step (hb2 HB GE189 GE190) hb); have n3_ := Aside0.mk (hbox); have n4_ := Aside0.mk ((by rw [hg]; exact (below_size (hb2 HB GE189 GE190)) : w.heap.size ≤ gb191)); have n5_ := Aside0.mk ((by rw [hg]; exact (below_size (hb2 HB GE189 GE190)) : w.heap.size ≤ gb191)); have n6_ := Aside0.mk (nel hg BK189 : gb189 ≠ gb191); have n7_ := Aside0.mk (neg hg BK189 : gb191 ≠ gb189); have n8_ := Aside0.mk (nel hg BK190 : gb190 ≠ gb191); have n9_ := Aside0.mk (neg hg BK190 : gb191 ≠ gb190); clear BK189; clear BK190; clear HB; have BK189 := n0_; have BK190 := n1_; have HB := n2_; have BK191 := n3_; have GW191 := n4_; have GE191 := n5_; have NB189_191 := n6_; have NB191_189 := n7_; have NB190_191 := n8_; have NB191_190 := n9_; clear n0_ n1_ n2_ n3_ n4_ n5_ n6_ n7_ n8_ n9_; clear hb hbox hg))
  have n0_ := Aside0.mk (blk_drew BK189.out)
  have n1_ := Aside0.mk (blk_drew BK190.out)
  have n2_ := Aside0.mk (blk_drew BK191.out)
  have n3_ := Aside0.mk (below_drew1 HB.out)
  clear BK189
  clear BK190
  clear BK191
  clear HB
  have BK189 := n0_
  have BK190 := n1_
  have BK191 := n2_
  have HB := n3_
  clear n0_ n1_ n2_ n3_
  refine start_ (n := 10) (S := fun w' => w'.cell? ⟨gb190, 0, none⟩ = some (.int .i64 a0_0) ∧ w'.cell? ⟨gb190, 1, none⟩ = some (.int .i64 a0_1) ∧ w'.cell? ⟨gb190, 2, none⟩ = some (.slice A0_2 l0_2.length c0_2)) (ds := []) (bA 10 0) (by kernel_rfl) rfl rfl ⟨(blk_cell BK190.out 0).trans rfl, (blk_cell BK190.out 1).trans rfl, (blk_cell BK190.out 2).trans rfl⟩ (fun hHeld => ?_); refine with_tabW printing_degradations_3.tab1 printing_degradations_3.bits1 (fun HT_ HW_ => ?_)
  generalize w7.drew = w8 at BK189 BK190 BK191 HB hHeld ⊢
  refine pt HT_ 0 7 ?_
  refine pt HT_ 2 9 ?_
  refine pt HT_ 4 11 ?_
  refine tk HT_ HW_ hHeld 1 8 ?_
  refine tk HT_ HW_ hHeld 3 10 ?_
  refine tk HT_ HW_ hHeld 5 12 ?_
  refine join_ (σ := Value × Nat) 1 (bA 10 511) (fun s_ => [(13, s_.1), (4, .pointer (some ⟨s_.2, 0, none⟩)), (14, .agg #[.int .i64 a0_0, .int .i64 a0_1, s_.1])]) (fun s_ w' => (w'.cell? ⟨gb190, 0, none⟩ = some (.int .i64 a0_0) ∧ w'.cell? ⟨gb190, 1, none⟩ = some (.int .i64 a0_1) ∧ w'.cell? ⟨gb190, 2, none⟩ = some (.slice A0_2 l0_2.length c0_2)) ∧ (Kd.R (Kd.int .u8) 5 w' w.heap.size (fun _ => True) s_.1 t192) ∧ (w'.heap[gb189]? = some (.cells #[.int .i64 a1_0, .int .i64 a1_1, .int .i64 a1_2, .int .u32 a1_3] 38 (0, 0))) ∧ (w'.heap[gb190]? = some (.cells #[.int .i64 a0_0, .int .i64 a0_1, .slice A0_2 l0_2.length c0_2] 24 (0, 0))) ∧ (w'.heap[gb191]? = some (.cells #[.int .i64 0, .int .i64 0, .slice none 0 0] 24 (0, 0))) ∧ (w'.heap[s_.2]? = some (.cells #[.int .i64 0, .int .i64 0, .slice none 0 0] 24 (0, 0))) ∧ (w.heap.size ≤ s_.2) ∧ (w.heap.size ≤ s_.2) ∧ (gb189 ≠ s_.2) ∧ (s_.2 ≠ gb189) ∧ (gb190 ≠ s_.2) ∧ (s_.2 ≠ gb190) ∧ (gb191 ≠ s_.2) ∧ (s_.2 ≠ gb191) ∧ (Below w.heap.size w w')) ?_ ?_
  rotate_left
  · intro hCont
    refine two_ (i := 6) (j := 8) (Ni := some 13) (Nj := some 4) (bA 10 127) (bA 10 319) rfl rfl rfl rfl (two_of HT_.out (by kernel_rfl)) (by decide) (by decide) (fun K hK => ?_) (fun K hK => ?_)
    · skip
      refine goes_ Try.func57 (by kernel_rfl) rfl #[.slice A0_2 l0_2.length c0_2] (by rfl) rfl rfl mapx ?_
      with_reducible refine (slices_Clone_uint8_uint8.calls _ _ l0_2 t192 _ ?side1 ?side2 A3.out).mono ?_
      (case side1 => repeat (first | exact (Kd.C_below HR0_2.out HB.out) | (with_reducible refine Kd.C_alloc ?_ _) | (with_reducible refine Kd.C_drewN ?_ _) | (with_reducible refine Kd.C_drew ?_)))
      (case side2 => exact HC0_2.out)
      rintro e w9 ⟨v193, rfl, ho0, hb⟩
      refine ⟨_, rfl, ?_⟩
      have n0_ := Aside0.mk (Kd.R_lower ho0 (below_size (hb3 HB GE189 GE190 GE191)))
      have n1_ := Aside0.mk (blk_below (bkx BK189) hb)
      have n2_ := Aside0.mk (blk_below (bkx BK190) hb)
      have n3_ := Aside0.mk (blk_below (bkx BK191) hb)
      have n4_ := Aside0.mk (below_step (hb3 HB GE189 GE190 GE191) hb)
      clear BK189
      clear BK190
      clear BK191
      clear HB
      have HO194 := n0_
      have BK189 := n1_
      have BK190 := n2_
      have BK191 := n3_
      have HB := n4_
      clear n0_ n1_ n2_ n3_ n4_
      (try clear hb)
      (try clear hb2)
      (try clear hk)
      (try clear hi)
      (try clear ho0)
      obtain ⟨Ao10, co10, eo10⟩ := Kd.R_slice HO194.out
      (first | subst eo10 | (injection eo10 with f1_ f2_ f3_; have f4_ := f1_.symm; have f5_ := f3_.symm; clear f1_ f2_ f3_; subst f4_; subst f5_))
      refine hK.out _ _ ⟨(blk_cell BK190.out 0).trans rfl, (blk_cell BK190.out 1).trans rfl, (blk_cell BK190.out 2).trans rfl⟩ (fun hHeld => ?_)
      clear hK K
      refine norm_ (a' := ?_) ?_ ?_
      rotate_left
      · show Act.put _ (some 13) _ = _
        simp only [Act.put, List.setIfInBounds_toArray, List.set_cons_zero, List.set_cons_succ, i64_w, i32_w]
        rfl
      refine pt HT_ 7 14 ?_
      refine one_ (i := 8) (N := some 4) (bA 10 511) rfl rfl (one_of HT_.out (by kernel_rfl)) (by decide) (fun K hK => ?_)
      refine box_step ?hg (N := 4) ?hd (cs := #[.int .i64 0, .int .i64 0, .slice none 0 0]) (t := 24) ?hr ?_; (case hd => rfl); (case hg => rfl); (case hr => first | (go_simp; done) | (go_simp; rfl))
      intro gb195 hg w11 hbox hb
      have n0_ := Aside0.mk (Kd.R_below (rkx HO194) hb)
      have n1_ := Aside0.mk (blk_below (bkx BK189) hb)
      have n2_ := Aside0.mk (blk_below (bkx BK190) hb)
      have n3_ := Aside0.mk (blk_below (bkx BK191) hb)
      have n4_ := Aside0.mk (below_step (hb3 HB GE189 GE190 GE191) hb)
      have n5_ := Aside0.mk (hbox)
      have n6_ := Aside0.mk ((by rw [hg]; exact (below_size (hb3 HB GE189 GE190 GE191)) : w.heap.size ≤ gb195))
      have n7_ := Aside0.mk ((by rw [hg]; exact (below_size (hb3 HB GE189 GE190 GE191)) : w.heap.size ≤ gb195))
      have n8_ := Aside0.mk (nel hg BK189 : gb189 ≠ gb195)
      have n9_ := Aside0.mk (neg hg BK189 : gb195 ≠ gb189)
      have n10_ := Aside0.mk (nel hg BK190 : gb190 ≠ gb195)
      have n11_ := Aside0.mk (neg hg BK190 : gb195 ≠ gb190)
      have n12_ := Aside0.mk (nel hg BK191 : gb191 ≠ gb195)
      have n13_ := Aside0.mk (neg hg BK191 : gb195 ≠ gb191)
      clear HO194
      clear BK189
      clear BK190
      clear BK191
      clear HB
      have HO194 := n0_
      have BK189 := n1_
      have BK190 := n2_
      have BK191 := n3_
      have HB := n4_
      have BK195 := n5_
      have GW195 := n6_
      have GE195 := n7_
      have NB189_195 := n8_
      have NB195_189 := n9_
      have NB190_195 := n10_
      have NB195_190 := n11_
      have NB191_195 := n12_
      have NB195_191 := n13_
      clear n0_ n1_ n2_ n3_ n4_ n5_ n6_ n7_ n8_ n9_ n10_ n11_ n12_ n13_
      clear hb hbox hg
      refine hK.out _ _ ⟨(blk_cell BK190.out 0).trans rfl, (blk_cell BK190.out 1).trans rfl, (blk_cell BK190.out 2).trans rfl⟩ (fun hHeld => ?_)
      clear hK K
      refine norm_ (a' := ?_) ?_ ?_
      rotate_left
      · show Act.put _ (some 4) _ = _
        simp only [Act.put, List.setIfInBounds_toArray, List.set_cons_zero, List.set_cons_succ, i64_w, i32_w]
        rfl
      exact norm_ (by simp only [putAll, Act.put, List.setIfInBounds_toArray, List.set_cons_zero, List.set_cons_succ]) (hCont (.slice Ao10 t192.length co10, gb195) _ ⟨hHeld, (rkx HO194), (bkx BK189), (bkx BK190), (bkx BK191), (bkx BK195), GW195.out, GE195.out, NB189_195.out, NB195_189.out, NB190_195.out, NB195_190.out, NB191_195.out, NB195_191.out, (hb4 HB GE189 GE190 GE191 GE195)⟩)
    · skip
      refine box_step ?hg (N := 4) ?hd (cs := #[.int .i64 0, .int .i64 0, .slice none 0 0]) (t := 24) ?hr ?_; (case hd => rfl); (case hg => rfl); (case hr => first | (go_simp; done) | (go_simp; rfl))
      intro gb195 hg w9 hbox hb
      have n0_ := Aside0.mk (blk_below (bkx BK189) hb)
      have n1_ := Aside0.mk (blk_below (bkx BK190) hb)
      have n2_ := Aside0.mk (blk_below (bkx BK191) hb)
      have n3_ := Aside0.mk (below_step (hb3 HB GE189 GE190 GE191) hb)
      have n4_ := Aside0.mk (hbox)
      have n5_ := Aside0.mk ((by rw [hg]; exact (below_size (hb3 HB GE189 GE190 GE191)) : w.heap.size ≤ gb195))
      have n6_ := Aside0.mk ((by rw [hg]; exact (below_size (hb3 HB GE189 GE190 GE191)) : w.heap.size ≤ gb195))
      have n7_ := Aside0.mk (nel hg BK189 : gb189 ≠ gb195)
      have n8_ := Aside0.mk (neg hg BK189 : gb195 ≠ gb189)
      have n9_ := Aside0.mk (nel hg BK190 : gb190 ≠ gb195)
      have n10_ := Aside0.mk (neg hg BK190 : gb195 ≠ gb190)
      have n11_ := Aside0.mk (nel hg BK191 : gb191 ≠ gb195)
      have n12_ := Aside0.mk (neg hg BK191 : gb195 ≠ gb191)
      clear BK189
      clear BK190
      clear BK191
      clear HB
      have BK189 := n0_
      have BK190 := n1_
      have BK191 := n2_
      have HB := n3_
      have BK195 := n4_
      have GW195 := n5_
      have GE195 := n6_
      have NB189_195 := n7_
      have NB195_189 := n8_
      have NB190_195 := n9_
      have NB195_190 := n10_
      have NB191_195 := n11_
      have NB195_191 := n12_
      clear n0_ n1_ n2_ n3_ n4_ n5_ n6_ n7_ n8_ n9_ n10_ n11_ n12_
      clear hb hbox hg
      refine hK.out _ _ ⟨(blk_cell BK190.out 0).trans rfl, (blk_cell BK190.out 1).trans rfl, (blk_cell BK190.out 2).trans rfl⟩ (fun hHeld => ?_)
      clear hK K
      refine norm_ (a' := ?_) ?_ ?_
      rotate_left
      · show Act.put _ (some 4) _ = _
        simp only [Act.put, List.setIfInBounds_toArray, List.set_cons_zero, List.set_cons_succ, i64_w, i32_w]
        rfl
      refine one_ (i := 6) (N := some 13) (bA 10 383) rfl rfl (one_of HT_.out (by kernel_rfl)) (by decide) (fun K hK => ?_)
      refine goes_ Try.func57 (by kernel_rfl) rfl #[.slice A0_2 l0_2.length c0_2] (by rfl) rfl rfl mapx ?_
      with_reducible refine (slices_Clone_uint8_uint8.calls _ _ l0_2 t192 _ ?side1 ?side2 A3.out).mono ?_
      (case side1 => repeat (first | exact (Kd.C_below HR0_2.out HB.out) | (with_reducible refine Kd.C_alloc ?_ _) | (with_reducible refine Kd.C_drewN ?_ _) | (with_reducible refine Kd.C_drew ?_)))
      (case side2 => exact HC0_2.out)
      rintro e w10 ⟨v193, rfl, ho0, hb⟩
      refine ⟨_, rfl, ?_⟩
      have n0_ := Aside0.mk (Kd.R_lower ho0 (below_size (hb4 HB GE189 GE190 GE191 GE195)))
      have n1_ := Aside0.mk (blk_below (bkx BK189) hb)
      have n2_ := Aside0.mk (blk_below (bkx BK190) hb)
      have n3_ := Aside0.mk (blk_below (bkx BK191) hb)
      have n4_ := Aside0.mk (blk_below (bkx BK195) hb)
      have n5_ := Aside0.mk (below_step (hb4 HB GE189 GE190 GE191 GE195) hb)
      clear BK189
      clear BK190
      clear BK191
      clear BK195
      clear HB
      have HO194 := n0_
      have BK189 := n1_
      have BK190 := n2_
      have BK191 := n3_
      have BK195 := n4_
      have HB := n5_
      clear n0_ n1_ n2_ n3_ n4_ n5_
      (try clear hb)
      (try clear hb2)
      (try clear hk)
      (try clear hi)
      (try clear ho0)
      obtain ⟨Ao11, co11, eo11⟩ := Kd.R_slice HO194.out
      (first | subst eo11 | (injection eo11 with f1_ f2_ f3_; have f4_ := f1_.symm; have f5_ := f3_.symm; clear f1_ f2_ f3_; subst f4_; subst f5_))
      refine hK.out _ _ ⟨(blk_cell BK190.out 0).trans rfl, (blk_cell BK190.out 1).trans rfl, (blk_cell BK190.out 2).trans rfl⟩ (fun hHeld => ?_)
      clear hK K
      refine norm_ (a' := ?_) ?_ ?_
      rotate_left
      · show Act.put _ (some 13) _ = _
        simp only [Act.put, List.setIfInBounds_toArray, List.set_cons_zero, List.set_cons_succ, i64_w, i32_w]
        rfl
      refine pt HT_ 7 14 ?_
      exact norm_ (by simp only [putAll, Act.put, List.setIfInBounds_toArray, List.set_cons_zero, List.set_cons_succ]) (hCont (.slice Ao11 t192.length co11, gb195) _ ⟨hHeld, (rkx HO194), (bkx BK189), (bkx BK190), (bkx BK191), (bkx BK195), GW195.out, GE195.out, NB189_195.out, NB195_189.out, NB190_195.out, NB195_190.out, NB191_195.out, NB195_191.out, (hb4 HB GE189 GE190 GE191 GE195)⟩)
  rintro ⟨v193, gb195⟩ w12 ⟨hS_, h0_, h1_, h2_, h3_, h4_, h5_, h6_, h7_, h8_, h9_, h10_, h11_, h12_, h13_⟩
  have n0_ : Aside0 (Kd.R (Kd.int .u8) 5 w12 w.heap.size (fun _ => True) v193 t192) := ⟨h0_⟩
  have n1_ : Aside0 (w12.heap[gb189]? = some (.cells #[.int .i64 a1_0, .int .i64 a1_1, .int .i64 a1_2, .int .u32 a1_3] 38 (0, 0))) := ⟨h1_⟩
  have n2_ : Aside0 (w12.heap[gb190]? = some (.cells #[.int .i64 a0_0, .int .i64 a0_1, .slice A0_2 l0_2.length c0_2] 24 (0, 0))) := ⟨h2_⟩
  have n3_ : Aside0 (w12.heap[gb191]? = some (.cells #[.int .i64 0, .int .i64 0, .slice none 0 0] 24 (0, 0))) := ⟨h3_⟩
  have n4_ : Aside0 (w12.heap[gb195]? = some (.cells #[.int .i64 0, .int .i64 0, .slice none 0 0] 24 (0, 0))) := ⟨h4_⟩
  have n5_ : Aside0 (w.heap.size ≤ gb195) := ⟨h5_⟩
  have n6_ : Aside0 (w.heap.size ≤ gb195) := ⟨h6_⟩
  have n7_ : Aside0 (gb189 ≠ gb195) := ⟨h7_⟩
  have n8_ : Aside0 (gb195 ≠ gb189) := ⟨h8_⟩
  have n9_ : Aside0 (gb190 ≠ gb195) := ⟨h9_⟩
  have n10_ : Aside0 (gb195 ≠ gb190) := ⟨h10_⟩
  have n11_ : Aside0 (gb191 ≠ gb195) := ⟨h11_⟩
  have n12_ : Aside0 (gb195 ≠ gb191) := ⟨h12_⟩
  have n13_ : Aside0 (Below w.heap.size w w12) := ⟨h13_⟩
  clear BK189
  clear BK190
  clear BK191
  clear HB
  clear h0_ h1_ h2_ h3_ h4_ h5_ h6_ h7_ h8_ h9_ h10_ h11_ h12_ h13_
  have HO194 := n0_
  have BK189 := n1_
  have BK190 := n2_
  have BK191 := n3_
  have BK195 := n4_
  have GW195 := n5_
  have GE195 := n6_
  have NB189_195 := n7_
  have NB195_189 := n8_
  have NB190_195 := n9_
  have NB195_190 := n10_
  have NB191_195 := n11_
  have NB195_191 := n12_
  have HB := n13_
  clear n0_ n1_ n2_ n3_ n4_ n5_ n6_ n7_ n8_ n9_ n10_ n11_ n12_ n13_
  have hHeld : w12.cell? ⟨gb190, 0, none⟩ = some (.int .i64 a0_0) ∧ w12.cell? ⟨gb190, 1, none⟩ = some (.int .i64 a0_1) ∧ w12.cell? ⟨gb190, 2, none⟩ = some (.slice A0_2 l0_2.length c0_2) := hS_
  obtain ⟨Ao13, co13, eo13⟩ := Kd.R_slice HO194.out
  (first | subst eo13 | (injection eo13 with f1_ f2_ f3_; have f4_ := f1_.symm; have f5_ := f3_.symm; clear f1_ f2_ f3_; subst f4_; subst f5_))
  refine norm_ (a' := ?_) ?_ ?_
  rotate_left
  · simp only [putAll, Act.put, List.setIfInBounds_toArray, List.set_cons_zero, List.set_cons_succ]
    rfl
  refine one_ (i := 9) (N := none) (bA 10 1023) rfl rfl (one_of HT_.out (by kernel_rfl)) (by decide) (fun K hK => ?_)
  have hs14 : w12.cell? ⟨gb195, 0, none⟩ = some (.int .i64 0) := (blk_cell BK195.out 0).trans rfl
  have hfs14 := blk_frozen BK195.out 0
  have hns14_0 := NB189_195.out
  have hns14_1 := NB190_195.out
  have hns14_2 := NB191_195.out
  have hms14_0 := NB195_189.out
  have hms14_1 := NB195_190.out
  have hms14_2 := NB195_191.out
  have hs15 : w12.cell? ⟨gb195, 1, none⟩ = some (.int .i64 0) := (blk_cell BK195.out 1).trans rfl
  have hfs15 := blk_frozen BK195.out 1
  have hns15_0 := NB189_195.out
  have hns15_1 := NB190_195.out
  have hns15_2 := NB191_195.out
  have hms15_0 := NB195_189.out
  have hms15_1 := NB195_190.out
  have hms15_2 := NB195_191.out
  have hs16 : w12.cell? ⟨gb195, 2, none⟩ = some (.slice none 0 0) := (blk_cell BK195.out 2).trans rfl
  have hfs16 := blk_frozen BK195.out 2
  have hns16_0 := NB189_195.out
  have hns16_1 := NB190_195.out
  have hns16_2 := NB191_195.out
  have hms16_0 := NB195_189.out
  have hms16_1 := NB195_190.out
  have hms16_2 := NB195_191.out
  refine skip_ (w1 := ?_) (by rfl) rfl ?_ ?_
  rotate_left
  · go_simp
    rfl
  refine hK.out _ _ ⟨((cell_far (p := ⟨gb195, _, none⟩) NB190_195.out _).trans (((cell_far (p := ⟨gb195, _, none⟩) NB190_195.out _).trans (((cell_far (p := ⟨gb195, _, none⟩) NB190_195.out _).trans (hHeld.1)))))), ((cell_far (p := ⟨gb195, _, none⟩) NB190_195.out _).trans (((cell_far (p := ⟨gb195, _, none⟩) NB190_195.out _).trans (((cell_far (p := ⟨gb195, _, none⟩) NB190_195.out _).trans (hHeld.2.1)))))), ((cell_far (p := ⟨gb195, _, none⟩) NB190_195.out _).trans (((cell_far (p := ⟨gb195, _, none⟩) NB190_195.out _).trans (((cell_far (p := ⟨gb195, _, none⟩) NB190_195.out _).trans (hHeld.2.2))))))⟩ (fun hHeld => ?_)
  clear hK K
  refine done_ (done_of HT_.out (by kernel_rfl)) ?_
  have hnb17 := NB190_189.out
  have hnc17 := NB189_190.out
  have hnb18 := NB190_191.out
  have hnc18 := NB191_190.out
  have hnb19 := NB190_195.out
  have hnc19 := NB195_190.out
  have hcz20_0 : w12.cell? ⟨gb190, 0, none⟩ = some (.int .i64 a0_0) := (blk_cell BK190.out 0).trans rfl
  have hcz20_1 : w12.cell? ⟨gb190, 1, none⟩ = some (.int .i64 a0_1) := (blk_cell BK190.out 1).trans rfl
  have hcz20_2 : w12.cell? ⟨gb190, 2, none⟩ = some (.slice A0_2 l0_2.length c0_2) := (blk_cell BK190.out 2).trans rfl
  have hfz20_0 := blk_frozen BK190.out 0
  have hfz20_1 := blk_frozen BK190.out 1
  have hfz20_2 := blk_frozen BK190.out 2
  have hnb21 := NB189_191.out
  have hnc21 := NB191_189.out
  have hnb22 := NB189_195.out
  have hnc22 := NB195_189.out
  have hcz23_0 : w12.cell? ⟨gb189, 0, none⟩ = some (.int .i64 a1_0) := (blk_cell BK189.out 0).trans rfl
  have hcz23_1 : w12.cell? ⟨gb189, 1, none⟩ = some (.int .i64 a1_1) := (blk_cell BK189.out 1).trans rfl
  have hcz23_2 : w12.cell? ⟨gb189, 2, none⟩ = some (.int .i64 a1_2) := (blk_cell BK189.out 2).trans rfl
  have hcz23_3 : w12.cell? ⟨gb189, 3, none⟩ = some (.int .u32 a1_3) := (blk_cell BK189.out 3).trans rfl
  have hfz23_0 := blk_frozen BK189.out 0
  have hfz23_1 := blk_frozen BK189.out 1
  have hfz23_2 := blk_frozen BK189.out 2
  have hfz23_3 := blk_frozen BK189.out 3
  try go_wp2_with (first | ((with_reducible refine gate_callee (f := 46) rfl ?_); refine goesL_ (some 22) rfl rfl Try.func46 (by kernel_rfl) rfl #[.int .i64 (l0_2.length : Int), .int .i64 a1_2, .int .u32 a1_3] rfl mapx ?_; (with_reducible refine (printing_places.calls k (l0_2.length : Int) a1_2 a1_3 t196 _ A4.out).mono ?_); rintro e w24 ⟨v197, rfl, ho0, hb⟩; refine ⟨_, rfl, ?_⟩; have n0_ := Aside0.mk (Kd.R_below (by refine rkt ?_; exact (far3 HO194 BK195)) hb); have n1_ := Aside0.mk (Kd.R_lower ho0 (below_size (hb4 HB GE189 GE190 GE191 GE195))); have n2_ := Aside0.mk (blk_below (g := gb189) (o := .cells #[.int .i64 a1_0, .int .i64 a1_1, .int .i64 a1_2, .int .u32 a1_3] 38 (0, 0)) (bky BK189 NB189_195) hb); have n3_ := Aside0.mk (blk_below (g := gb190) (o := .cells #[.int .i64 a0_0, .int .i64 a0_1, .slice A0_2 l0_2.length c0_2] 24 (0, 0)) (bky BK190 NB190_195) hb); have n4_ := Aside0.mk (blk_below (g := gb191) (o := .cells #[.int .i64 0, .int .i64 0, .slice none 0 0] 24 (0, 0)) (bky BK191 NB191_195) hb); have n5_ := Aside0.mk (blk_below (g := gb195) (o := .cells #[.int .i64 a0_0, .int .i64 a0_1, .slice Ao13 t192.length co13] 24 (0, 0)) (by refine bkt ?_; refine blk_put (cs := #[.int .i64 a0_0, .int .i64 a0_1, .slice none 0 0]) ?_ 2 _ rfl; refine bkt ?_; refine blk_put (cs := #[.int .i64 a0_0, .int .i64 0, .slice none 0 0]) ?_ 1 _ rfl; refine bkt ?_; refine blk_put (cs := #[.int .i64 0, .int .i64 0, .slice none 0 0]) ?_ 0 _ rfl; refine bkt ?_; exact BK195.out) hb); have n6_ := Aside0.mk (below_step (hb4 HB GE189 GE190 GE191 GE195) hb); clear HO194; clear BK189; clear BK190; clear BK191; clear BK195; clear HB; have HO194 := n0_; have HO198 := n1_; have BK189 := n2_; have BK190 := n3_; have BK191 := n4_; have BK195 := n5_; have HB := n6_; clear n0_ n1_ n2_ n3_ n4_ n5_ n6_; (try clear hb); (try clear hb2); (try clear hk); (try clear hi); (try clear ho0); obtain ⟨Ao25, co25, eo25⟩ := Kd.R_slice HO198.out; subst eo25))
  go_loopg [24] k (fun kq v24 w' => ∃ (x24_1 : Int) (x196002_1 : List Int) (u196002 : Value), v24 = .int .i64 x24_1 ∧ Aside0 (printing_degradations_3.l0 kq t196 (t196.length : Int) x24_1 a0_0 a0_1 x196002_1 = some (r1, r2, r3)) ∧ Aside0 (kq ≤ k) ∧ Aside0 (Kd.R (Kd.int .i64) 3 w' w.heap.size (fun _ => True) (.slice Ao25 t196.length co25) t196) ∧ Aside0 (Kd.R (Kd.int .u8) 5 w' w.heap.size (fun _ => True) u196002 x196002_1) ∧ Aside0 (w'.heap[gb189]? = some (.cells #[.int .i64 a1_0, .int .i64 a1_1, .int .i64 a1_2, .int .u32 a1_3] 38 (0, 0))) ∧ Aside0 (w'.heap[gb190]? = some (.cells #[.int .i64 a0_0, .int .i64 a0_1, (.slice A0_2 l0_2.length c0_2)] 24 (0, 0))) ∧ Aside0 (w'.heap[gb191]? = some (.cells #[.int .i64 0, .int .i64 0, (.slice none 0 0)] 24 (0, 0))) ∧ Aside0 (w'.heap[gb195]? = some (.cells #[.int .i64 a0_0, .int .i64 a0_1, u196002] 24 (0, 0))) ∧ Aside0 (Below w.heap.size w w'))
  case atStart => exact ⟨(0), (t192), (.slice Ao13 t192.length co13), (by first | rfl | (simp; done) | (simp [*]; done)), H', ⟨Nat.le_refl _⟩, ⟨rkx HO198⟩, ⟨rkx HO194⟩, ⟨bkx BK189⟩, ⟨bkx BK190⟩, ⟨bkx BK191⟩, ⟨bkx BK195⟩, ⟨hb4 HB GE189 GE190 GE191 GE195⟩⟩
  case round =>
    clear H'
    (try clear c1); (try clear c2); (try clear p2); (try clear c4); (try clear c5); (try clear c17); (try clear c18); (try clear c19); (try clear c21); (try clear c22); (try clear hcz20_0); (try clear hcz20_1); (try clear hcz20_2); (try clear hcz23_0); (try clear hcz23_1); (try clear hcz23_2); (try clear hcz23_3); (try clear hfz20_0); (try clear hfz20_1); (try clear hfz20_2); (try clear hfz23_0); (try clear hfz23_1); (try clear hfz23_2); (try clear hfz23_3)
    obtain ⟨x24_1, x196002_1, u196002, rfl, HA, HK1, HO_22, HO_196002, BK189, BK190, BK191, BK195, HB⟩ := hrel
    cases gk with
    | zero => exact absurd HA.out (by simp [printing_degradations_3.l0])
    | succ k1 =>
      have H := HA.out
      clear HA
      simp only [printing_degradations_3.l0] at H
      by_cases c26 : x24_1 < (t196.length : Int)
      · rw [if_pos c26] at H
        have c26b0 : decide (x24_1 < (t196.length : Int)) = true := decide_eq_true c26
        clear c26
        by_cases c27 : 0 ≤ x24_1
        · rw [if_pos c27] at H
          have c27b0 : decide (0 ≤ x24_1) = true := decide_eq_true c27
          clear c27
          by_cases c28 : x24_1 < (t196.length : Int)
          · rw [if_pos c28] at H
            have c28b0 : decide (x24_1 < (t196.length : Int)) = true := decide_eq_true c28
            clear c28
            by_cases c29 : 0 ≤ (rd t196 x24_1)
            · rw [if_pos c29] at H
              have c29b0 : decide (0 ≤ (rd t196 x24_1)) = true := decide_eq_true c29
              clear c29
              by_cases c30 : (rd t196 x24_1) < (x196002_1.length : Int)
              · rw [if_pos c30] at H
                have c30b0 : decide ((rd t196 x24_1) < (x196002_1.length : Int)) = true := decide_eq_true c30
                clear c30
                obtain ⟨y201, hy201⟩ : ∃ y_ : List Int, y_ = (x196002_1.set ((rd t196 x24_1) : Int).toNat ((255 - (rd x196002_1 (rd t196 x24_1))) % 256)) := ⟨_, rfl⟩
                replace H : (printing_degradations_3.l0 k1 t196 (t196.length : Int) (wrap64 (x24_1 + 1)) a0_0 a0_1 y201) = some (r1, r2, r3) := by first | (rw [hy201]; with_reducible exact H) | (have H2_ := (Option.bind_some _ _).symm.trans H; rw [hy201]; with_reducible exact H2_) | (have H2_ := (Option.bind_some _ _).symm.trans H; with_reducible exact H2_) | with_reducible exact H | (rw [hy201]; exact H) | exact H
                have Ny201 := Aside0.mk hy201
                clear hy201
                have H' := Aside0.mk H
                clear H
                have p199 : 0 ≤ (x24_1 : Int) := of_decide_eq_true (by first | (with_reducible assumption) | assumption)
                have q199 : x24_1 < (t196.length : Int) := of_decide_eq_true (by first | (with_reducible assumption) | assumption)
                obtain ⟨ad199, e199, hx199_0⟩ := Kd.at_int (Kd.R_reads' HO_22.out).2.2 x24_1 p199 q199
                cases e199
                replace p199 := eq_true p199
                replace q199 := eq_true q199
                try go_wp2
                have n0_ := Aside0.mk (Kd.R_drew HO_22.out)
                have n1_ := Aside0.mk (Kd.R_drew HO_196002.out)
                have n2_ := Aside0.mk (blk_drew BK189.out)
                have n3_ := Aside0.mk (blk_drew BK190.out)
                have n4_ := Aside0.mk (blk_drew BK191.out)
                have n5_ := Aside0.mk (blk_drew BK195.out)
                have n6_ := Aside0.mk (below_drew1 HB.out)
                clear HO_22
                clear HO_196002
                clear BK189
                clear BK190
                clear BK191
                clear BK195
                clear HB
                have HO_22 := n0_
                have HO_196002 := n1_
                have BK189 := n2_
                have BK190 := n3_
                have BK191 := n4_
                have BK195 := n5_
                have HB := n6_
                clear n0_ n1_ n2_ n3_ n4_ n5_ n6_
                obtain ⟨Ao33, co33, eo33⟩ := Kd.R_slice HO_196002.out
                (first | subst eo33 | (injection eo33 with f1_ f2_ f3_; have f4_ := f1_.symm; have f5_ := f3_.symm; clear f1_ f2_ f3_; subst f4_; subst f5_))
                have p200 : 0 ≤ ((rd t196 x24_1) : Int) := of_decide_eq_true (by first | (with_reducible assumption) | assumption)
                have q200 : (rd t196 x24_1) < (x196002_1.length : Int) := of_decide_eq_true (by first | (with_reducible assumption) | assumption)
                obtain ⟨ad200, e200, hx200_0⟩ := Kd.at_int (Kd.R_reads' HO_196002.out).2.2 (rd t196 x24_1) p200 q200
                cases e200
                replace p200 := eq_true p200
                replace q200 := eq_true q200
                have p31 : 0 ≤ ((rd t196 x24_1) : Int) := of_decide_eq_true (by first | (with_reducible assumption) | assumption)
                have q31 : ((rd t196 x24_1) : Int) < ((x196002_1.length : Int) : Int) := of_decide_eq_true (by first | (with_reducible assumption) | assumption)
                obtain ⟨go31, co31, eo31, gb31, gl31, cl31, HG31⟩ := Kd.R_form HO_196002.out (by omega)
                (first | cases eo31 | (injection eo31 with ea_ en_ ec_; (first | subst ea_ | (injection ea_ with ea_; subst ea_)); subst ec_; clear en_))
                have GB31 := Aside0.mk gb31
                have GG31 := Aside0.mk HG31
                clear gb31 gl31 HG31
                (first | simp only [add_plain] at hx200_0 | skip)
                obtain ⟨hx31_0, hf31_0⟩ := Kd.R_celln 0 HO_196002.out ((rd t196 x24_1) : Int) p31 q31
                replace p31 := eq_true p31
                replace q31 := eq_true q31
                have HP34 := Kd.R_putn HO_196002.out ((rd t196 x24_1) : Int) ((255 - (rd x196002_1 (rd t196 x24_1))) % 256)
                rw [← Ny201.out] at HP34
                have HQ34 := Aside0.mk HP34
                clear HP34
                refine start_ (n := 11) (S := fun w' => w'.cell? ⟨gb195, 0, none⟩ = some (.int .i64 a0_0) ∧ w'.cell? ⟨gb195, 1, none⟩ = some (.int .i64 a0_1) ∧ w'.cell? ⟨gb195, 2, none⟩ = some (.slice (some ⟨go31, 0, none⟩) x196002_1.length co33) ∧ w'.cell? ⟨go31, ((rd t196 x24_1)).toNat, none⟩ = some (.int .u8 (rd x196002_1 (rd t196 x24_1)))) (ds := [10]) (bA 11 0) (by kernel_rfl) rfl rfl ⟨(blk_cell BK195.out 0).trans rfl, (blk_cell BK195.out 1).trans rfl, (blk_cell BK195.out 2).trans rfl, hx200_0⟩ (fun hHeld => ?_); refine with_tabW printing_degradations_3.tab5 printing_degradations_3.bits5 (fun HT_ HW_ => ?_)
                generalize wr.drew = w32 at HO_22 HO_196002 BK189 BK190 BK191 BK195 HB GG31 HQ34 hf31_0 hx200_0 hx31_0 hHeld ⊢
                refine pt HT_ 0 28 ?_
                refine pt HT_ 2 30 ?_
                refine pt HT_ 3 31 ?_
                refine pt HT_ 5 33 ?_
                refine tk HT_ HW_ hHeld 1 29 ?_
                refine tk HT_ HW_ hHeld 4 32 ?_
                refine pt HT_ 6 34 ?_
                refine tk HT_ HW_ hHeld 7 35 ?_
                refine pt HT_ 8 36 ?_
                refine pt HT_ 9 37 ?_
                refine last_ (i := 10) (N := none) (bA 11 2047) rfl rfl (one_of HT_.out (by kernel_rfl)) (by decide) (fun K hK => ?_)
                refine skip_ (w1 := ?_) (by rfl) rfl ?_ ?_
                rotate_left
                · go_simp
                  rfl
                refine hK.out _ _ ?_
                clear hK K
                refine done_ (done_of HT_.out (by kernel_rfl)) ?_
                try go_wp2
                go_roundg k1
                case measure => have := HK1.out; omega
                case rel => exact ⟨(wrap64 (x24_1 + 1)), (y201), (.slice (some ⟨go31, 0, none⟩) x196002_1.length co33), (by first | rfl | (simp; done) | (simp [*]; done)), H', ⟨by have := HK1.out; omega⟩, ⟨by refine rkt ?_; exact Kd.R_mono (Kd.R_far (p := ⟨go31, ((rd t196 x24_1) : Int).toNat, none⟩) (Kd.R_types HO_22.out GG31.out (by decide)) (fun _ hk => hk.2) (.int .u8 ((255 - (rd x196002_1 (rd t196 x24_1))) % 256))) (fun _ hk => trivial)⟩, ⟨rkx HQ34⟩, ⟨by refine bkt ?_; refine blk_far ?_ (by have h_ := Kd.R_ne HO_196002.out BK189.out (by decide); intro e_; exact h_ (by rw [e_]; rfl)) _; refine bkt ?_; exact BK189.out⟩, ⟨by refine bkt ?_; refine blk_far ?_ (by have h_ := Kd.R_ne HO_196002.out BK190.out (by decide); intro e_; exact h_ (by rw [e_]; rfl)) _; refine bkt ?_; exact BK190.out⟩, ⟨by refine bkt ?_; refine blk_far ?_ (by have h_ := Kd.R_ne HO_196002.out BK191.out (by decide); intro e_; exact h_ (by rw [e_]; rfl)) _; refine bkt ?_; exact BK191.out⟩, ⟨by refine bkt ?_; refine blk_far ?_ (by have h_ := Kd.R_ne HO_196002.out BK195.out (by decide); intro e_; exact h_ (by rw [e_]; rfl)) _; refine bkt ?_; exact BK195.out⟩, ⟨hb5 HB GB31 GE189 GE190 GE191 GE195⟩⟩
              · rw [if_neg c30] at H
                exact absurd H (by simp)
            · rw [if_neg c29] at H
              exact absurd H (by simp)
          · rw [if_neg c28] at H
            exact absurd H (by simp)
        · rw [if_neg c27] at H
          exact absurd H (by simp)
      · rw [if_neg c26] at H
        have c26b0 : decide (x24_1 < (t196.length : Int)) = false := decide_eq_false c26
        clear c26
        simp only [Option.some.injEq, Prod.mk.injEq] at H
        obtain ⟨rfl, rfl, rfl⟩ := H
        have hnb35 := NB195_189.out
        have hnc35 := NB189_195.out
        have hnb36 := NB195_190.out
        have hnc36 := NB190_195.out
        have hnb37 := NB195_191.out
        have hnc37 := NB191_195.out
        have hcz38_0 : wr.cell? ⟨gb195, 0, none⟩ = some (.int .i64 a0_0) := (blk_cell BK195.out 0).trans rfl
        have hcz38_1 : wr.cell? ⟨gb195, 1, none⟩ = some (.int .i64 a0_1) := (blk_cell BK195.out 1).trans rfl
        have hcz38_2 : wr.cell? ⟨gb195, 2, none⟩ = some (u196002) := (blk_cell BK195.out 2).trans rfl
        have hfz38_0 := blk_frozen BK195.out 0
        have hfz38_1 := blk_frozen BK195.out 1
        have hfz38_2 := blk_frozen BK195.out 2
        have hnb39 := NB191_189.out
        have hnc39 := NB189_191.out
        have hnb40 := NB191_190.out
        have hnc40 := NB190_191.out
        have hcz41_0 : wr.cell? ⟨gb191, 0, none⟩ = some (.int .i64 0) := (blk_cell BK191.out 0).trans rfl
        have hcz41_1 : wr.cell? ⟨gb191, 1, none⟩ = some (.int .i64 0) := (blk_cell BK191.out 1).trans rfl
        have hcz41_2 : wr.cell? ⟨gb191, 2, none⟩ = some (.slice none 0 0) := (blk_cell BK191.out 2).trans rfl
        have hfz41_0 := blk_frozen BK191.out 0
        have hfz41_1 := blk_frozen BK191.out 1
        have hfz41_2 := blk_frozen BK191.out 2
        obtain ⟨Ao42, co42, eo42⟩ := Kd.R_slice HO_196002.out
        subst eo42
        go_wp2
        refine bodyPost_ret (results_cell_row rfl _ _ gb191 24 #[.int .i64 a0_0, .int .i64 a0_1, .slice Ao42 x196002_1.length co42] (0, 0) _ rfl (by refine bkt ?_; refine blk_put (cs := #[.int .i64 a0_0, .int .i64 a0_1, .slice none 0 0]) ?_ 2 _ rfl; refine bkt ?_; refine blk_put (cs := #[.int .i64 a0_0, .int .i64 0, .slice none 0 0]) ?_ 1 _ rfl; refine bkt ?_; refine blk_put (cs := #[.int .i64 0, .int .i64 0, .slice none 0 0]) ?_ 0 _ rfl; refine bkt ?_; exact BK191.out) Try.underlying24 rfl (by kernel_rfl)) rfl ?_
        exact ⟨_, by first | rfl | (simp [errW_none, errW_some] <;> rfl) | (simp [*, errW_none, errW_some] <;> rfl), by refine rkt ?_; exact Kd.R_mono (Kd.R_far (p := ⟨gb191, 2, none⟩) (Kd.R_far (p := ⟨gb191, 1, none⟩) (Kd.R_far (p := ⟨gb191, 0, none⟩) (Kd.R_types HO_196002.out BK191.out (by decide)) (fun _ hk => hk.2) (.int .i64 a0_0)) (fun _ hk => hk.2) (.int .i64 a0_1)) (fun _ hk => hk.2) (.slice Ao42 x196002_1.length co42)) (fun _ hk => trivial), by repeat (first | (with_reducible first | exact HB.out | apply below_alloc | apply pw_below_drewN | apply below_drew1 | refine below_set ?_ GE189.out | refine below_set ?_ GE190.out | refine below_set ?_ GE191.out | refine below_set ?_ GE195.out) | exact HB.out)⟩


/-! ### raster_Check: function 35 -/
def raster_Check.f (a0_0 : Int) (a0_1 : Int) (l0_2 : List Bool) : Option (Int) := (raster_possible.f a0_0 a0_1).bind fun t170 => (if t170 = true then (if (l0_2.length : Int) = (wrap64 (a0_0 * a0_1)) then (some 0) else (some 1)) else (some 1))
set_option maxHeartbeats 8000000 in
set_option maxRecDepth 100000 in
theorem raster_Check.calls (a0_0 : Int) (a0_1 : Int) (A0_2 : Option Addr) (c0_2 : Nat) (l0_2 : List Bool) (r : Int) (w : World) (hr0_2 : Kd.C Kd.bool w A0_2 l0_2.length l0_2) (hc0_2 : l0_2.length ≤ c0_2) (h : raster_Check.f a0_0 a0_1 l0_2 = some r) :
    Calls Try.prog 35 #[.agg #[.int .i64 a0_0, .int .i64 a0_1, .slice A0_2 l0_2.length c0_2]] w fun e w' => e = .returned (.int .i64 r) ∧ Below w.heap.size w w' := by
  have hu33 := Try.underlying33
  have HR0_2 := Aside0.mk hr0_2
  have HC0_2 := Aside0.mk hc0_2
  clear hr0_2 hc0_2
  have HB := Aside0.mk (Below.refl w.heap.size w)
  have H : ((raster_possible.f a0_0 a0_1).bind fun t170 => (if t170 = true then (if (l0_2.length : Int) = (wrap64 (a0_0 * a0_1)) then (some 0) else (some 1)) else (some 1))) = some r := h
  clear h
  replace H := Option.bind_eq_some_iff.mp H
  obtain ⟨t170, A20, H⟩ := H
  replace H : (if t170 = true then (if (l0_2.length : Int) = (wrap64 (a0_0 * a0_1)) then (some 0) else (some 1)) else (some 1)) = some r := H
  have A2 := Aside0.mk A20
  clear A20
  by_cases c3 : t170 = true
  · subst c3
    have H1 : (if (l0_2.length : Int) = (wrap64 (a0_0 * a0_1)) then (some 0) else (some 1)) = some r := by rw [if_pos rfl] at H; exact H
    clear H
    have H := H1
    clear H1
    by_cases c4 : (l0_2.length : Int) = (wrap64 (a0_0 * a0_1))
    · rw [if_pos c4] at H
      have c4b0 : ((l0_2.length : Int) == (wrap64 (a0_0 * a0_1))) = true := beq_iff_eq.mpr c4
      have c4b1 : ((l0_2.length : Int) != (wrap64 (a0_0 * a0_1))) = false := bne_eq_false_iff_eq.mpr c4
      clear c4
      obtain rfl := Option.some.inj H
      go_enter Try.func35, Try.ntmps35
      go_wp2_with (first | ((with_reducible refine gate_dst (N := 1) rfl ?_); (try (refine gate_guard (by rfl) ?_; dsimp only)); refine box_event ?hg (N := 1) ?hd (cs := #[.int .i64 a0_0, .int .i64 a0_1, .slice A0_2 l0_2.length c0_2]) (t := 33) ?hr ?_; (case hd => rfl); (case hg => rfl); (case hr => first | (go_simp; done) | (go_simp; rfl)); intro gb169 hg w5 hbox hb; have n0_ := Aside0.mk (below_step (hb0 HB) hb); have n1_ := Aside0.mk (hbox); have n2_ := Aside0.mk ((by rw [hg]; exact (below_size (hb0 HB)) : w.heap.size ≤ gb169)); have n3_ := Aside0.mk ((by rw [hg]; exact (below_size (hb0 HB)) : w.heap.size ≤ gb169)); clear HB; have HB := n0_; have BK169 := n1_; have GW169 := n2_; have GE169 := n3_; clear n0_ n1_ n2_ n3_; clear hb hbox hg; have hcz6_0 : w5.cell? ⟨gb169, 0, none⟩ = some (.int .i64 a0_0) := (blk_cell BK169.out 0).trans rfl; have hcz6_1 : w5.cell? ⟨gb169, 1, none⟩ = some (.int .i64 a0_1) := (blk_cell BK169.out 1).trans rfl; have hcz6_2 : w5.cell? ⟨gb169, 2, none⟩ = some (.slice A0_2 l0_2.length c0_2) := (blk_cell BK169.out 2).trans rfl; have hfz6_0 := blk_frozen BK169.out 0; have hfz6_1 := blk_frozen BK169.out 1; have hfz6_2 := blk_frozen BK169.out 2) | ((with_reducible refine gate_callee (f := 51) rfl ?_); refine goesL_ (some 7) rfl rfl Try.func51 (by kernel_rfl) rfl #[.int .i64 a0_0, .int .i64 a0_1] rfl mapx ?_; (with_reducible refine (raster_possible.calls a0_0 a0_1 true _ A2.out).mono ?_); rintro e w' ⟨rfl, ⟨nd, rfl⟩⟩; refine ⟨_, rfl, ?_⟩))
      go_ret
      exact ⟨by first | rfl | (simp [errW_none, errW_some] <;> rfl) | (simp [*, errW_none, errW_some] <;> rfl), by repeat (first | (with_reducible first | exact HB.out | apply below_alloc | apply pw_below_drewN | apply below_drew1 | refine below_set ?_ GE169.out) | exact HB.out)⟩
    · rw [if_neg c4] at H
      have c4b0 : ((l0_2.length : Int) == (wrap64 (a0_0 * a0_1))) = false := beq_eq_false_iff_ne.mpr c4
      have c4b1 : ((l0_2.length : Int) != (wrap64 (a0_0 * a0_1))) = true := bne_iff_ne.mpr c4
      obtain rfl := Option.some.inj H
      go_enter Try.func35, Try.ntmps35
      go_wp2_with (first | ((with_reducible refine gate_dst (N := 1) rfl ?_); (try (refine gate_guard (by rfl) ?_; dsimp only)); refine box_event ?hg (N := 1) ?hd (cs := #[.int .i64 a0_0, .int .i64 a0_1, .slice A0_2 l0_2.length c0_2]) (t := 33) ?hr ?_; (case hd => rfl); (case hg => rfl); (case hr => first | (go_simp; done) | (go_simp; rfl)); intro gb169 hg w7 hbox hb; have n0_ := Aside0.mk (below_step (hb0 HB) hb); have n1_ := Aside0.mk (hbox); have n2_ := Aside0.mk ((by rw [hg]; exact (below_size (hb0 HB)) : w.heap.size ≤ gb169)); have n3_ := Aside0.mk ((by rw [hg]; exact (below_size (hb0 HB)) : w.heap.size ≤ gb169)); clear HB; have HB := n0_; have BK169 := n1_; have GW169 := n2_; have GE169 := n3_; clear n0_ n1_ n2_ n3_; clear hb hbox hg; have hcz8_0 : w7.cell? ⟨gb169, 0, none⟩ = some (.int .i64 a0_0) := (blk_cell BK169.out 0).trans rfl; have hcz8_1 : w7.cell? ⟨gb169, 1, none⟩ = some (.int .i64 a0_1) := (blk_cell BK169.out 1).trans rfl; have hcz8_2 : w7.cell? ⟨gb169, 2, none⟩ = some (.slice A0_2 l0_2.length c0_2) := (blk_cell BK169.out 2).trans rfl; have hfz8_0 := blk_frozen BK169.out 0; have hfz8_1 := blk_frozen BK169.out 1; have hfz8_2 := blk_frozen BK169.out 2) | ((with_reducible refine gate_callee (f := 51) rfl ?_); refine goesL_ (some 7) rfl rfl Try.func51 (by kernel_rfl) rfl #[.int .i64 a0_0, .int .i64 a0_1] rfl mapx ?_; (with_reducible refine (raster_possible.calls a0_0 a0_1 true _ A2.out).mono ?_); rintro e w' ⟨rfl, ⟨nd, rfl⟩⟩; refine ⟨_, rfl, ?_⟩))
      go_ret
      exact ⟨by first | rfl | (simp [errW_none, errW_some] <;> rfl) | (simp [*, errW_none, errW_some] <;> rfl), by repeat (first | (with_reducible first | exact HB.out | apply below_alloc | apply pw_below_drewN | apply below_drew1 | refine below_set ?_ GE169.out) | exact HB.out)⟩
  · replace c3 := Bool.eq_false_iff.mpr c3
    subst c3
    have H1 : (some 1) = some r := by rw [if_neg (show ¬ (false = true) by decide)] at H; exact H
    clear H
    have H := H1
    clear H1
    obtain rfl := Option.some.inj H
    go_enter Try.func35, Try.ntmps35
    go_wp2_with (first | ((with_reducible refine gate_dst (N := 1) rfl ?_); (try (refine gate_guard (by rfl) ?_; dsimp only)); refine box_event ?hg (N := 1) ?hd (cs := #[.int .i64 a0_0, .int .i64 a0_1, .slice A0_2 l0_2.length c0_2]) (t := 33) ?hr ?_; (case hd => rfl); (case hg => rfl); (case hr => first | (go_simp; done) | (go_simp; rfl)); intro gb169 hg w9 hbox hb; have n0_ := Aside0.mk (below_step (hb0 HB) hb); have n1_ := Aside0.mk (hbox); have n2_ := Aside0.mk ((by rw [hg]; exact (below_size (hb0 HB)) : w.heap.size ≤ gb169)); have n3_ := Aside0.mk ((by rw [hg]; exact (below_size (hb0 HB)) : w.heap.size ≤ gb169)); clear HB; have HB := n0_; have BK169 := n1_; have GW169 := n2_; have GE169 := n3_; clear n0_ n1_ n2_ n3_; clear hb hbox hg; have hcz10_0 : w9.cell? ⟨gb169, 0, none⟩ = some (.int .i64 a0_0) := (blk_cell BK169.out 0).trans rfl; have hcz10_1 : w9.cell? ⟨gb169, 1, none⟩ = some (.int .i64 a0_1) := (blk_cell BK169.out 1).trans rfl; have hcz10_2 : w9.cell? ⟨gb169, 2, none⟩ = some (.slice A0_2 l0_2.length c0_2) := (blk_cell BK169.out 2).trans rfl; have hfz10_0 := blk_frozen BK169.out 0; have hfz10_1 := blk_frozen BK169.out 1; have hfz10_2 := blk_frozen BK169.out 2) | ((with_reducible refine gate_callee (f := 51) rfl ?_); refine goesL_ (some 7) rfl rfl Try.func51 (by kernel_rfl) rfl #[.int .i64 a0_0, .int .i64 a0_1] rfl mapx ?_; (with_reducible refine (raster_possible.calls a0_0 a0_1 false _ A2.out).mono ?_); rintro e w' ⟨rfl, ⟨nd, rfl⟩⟩; refine ⟨_, rfl, ?_⟩))
    go_ret
    exact ⟨by first | rfl | (simp [errW_none, errW_some] <;> rfl) | (simp [*, errW_none, errW_some] <;> rfl), by repeat (first | (with_reducible first | exact HB.out | apply below_alloc | apply pw_below_drewN | apply below_drew1 | refine below_set ?_ GE169.out) | exact HB.out)⟩

end Go.Proofs.Ytbipbbckfmilfaa.PR
