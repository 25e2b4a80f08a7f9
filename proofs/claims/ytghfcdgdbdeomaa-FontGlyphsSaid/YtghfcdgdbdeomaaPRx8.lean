-- Written by this session's own program (myprint.py).
import Derived.Test.YtghfcdgdbdeomaaPRx0
import Derived.Test.YtghfcdgdbdeomaaPRx1
import Derived.Test.YtghfcdgdbdeomaaPRx3
namespace Go.Proofs.Ytghfcdgdbdeomaa.PR
open Go.RowKit Go.Proofs.YtghfcdgdbdeomaaW.PrintWords Go.Proofs.YtghfcdgdbdeomaaW.PrintLast Go.Proofs.YtghfcdgdbdeomaaW.PrintMore Go.Proofs.Ytghfcdgdbdeomaa.XWords Go.Proofs.Ytghfcdgdbdeomaa.XShort
attribute [local go_sem] max2_int min2_int max_two min_two max_three min_three max_four min_four   -- for this text's walks alone
set_option linter.unusedVariables false
set_option linter.unusedSimpArgs false

/-! ### font_Closest: function 11 -/
mutual
def font_Closest.l0 : Nat → Int → List (S44) → List (S44) → Int → Int → Option (Int)
  | 0, _, _, _, _, _ => none
  | k + 1, x1, x2, x8, x9, x10 => if x10 < x9 then (if 0 ≤ x10 then (if x10 < (x8.length : Int) then (if x10 ≤ (x2.length : Int) then ((some (x2.take (x10 : Int).toNat : List (S44))).bind fun y216 => (font_Closest.l1 k x1 x2 x8 x9 x10 y216 (y216.length : Int) 0 ((rd_T44 x8 x10).f0) ((rd_T44 x8 x10).f1))) else (none)) else (none)) else (none)) else (some x1)
def font_Closest.l1 : Nat → Int → List (S44) → List (S44) → Int → Int → List (S44) → Int → Int → Int → ByteArray → Option (Int)
  | 0, _, _, _, _, _, _, _, _, _, _ => none
  | k + 1, x1, x2, x8, x9, x10, x17, x18, x19, x216000, x216001 => if x19 < x18 then (if 0 ≤ x19 then (if x19 < (x17.length : Int) then ((font_distance.f k x216000 x216001 ((rd_T44 x17 x19).f0) ((rd_T44 x17 x19).f1)).bind fun t222 => (font_Closest.l1 k (mn x1 t222) x2 x8 x9 x10 x17 x18 (wrap64 (x19 + 1)) x216000 x216001)) else (none)) else (none)) else (font_Closest.l0 k x1 x2 x8 x9 (wrap64 (x10 + 1)))
end
def font_Closest.f (k : Nat)  : Option (Int) := (font_table.f).bind fun t211 => (font_Closest.l0 k 35 t211 t211 (t211.length : Int) 0)
theorem font_Closest.mono_l : ∀ k, (∀ y0 y1 y2 y3 y4, LeO (font_Closest.l0 k y0 y1 y2 y3 y4) (font_Closest.l0 (k + 1) y0 y1 y2 y3 y4)) ∧ (∀ y0 y1 y2 y3 y4 y5 y6 y7 y8 y9, LeO (font_Closest.l1 k y0 y1 y2 y3 y4 y5 y6 y7 y8 y9) (font_Closest.l1 (k + 1) y0 y1 y2 y3 y4 y5 y6 y7 y8 y9))
  | 0 => ⟨fun _ _ _ _ _ r h => by simp [font_Closest.l0] at h, fun _ _ _ _ _ _ _ _ _ _ r h => by simp [font_Closest.l1] at h⟩
  | k + 1 => by
    obtain ⟨ih0, ih1⟩ := font_Closest.mono_l k
    refine ⟨?_, ?_⟩
    · intro y0 y1 y2 y3 y4
      unfold font_Closest.l0
      repeat' first
      | (with_reducible exact ih0 _ _ _ _ _)
      | (with_reducible exact ih1 _ _ _ _ _ _ _ _ _ _)
      | (with_reducible exact font_distance.mono _ _ _ _ _)
      | (with_reducible exact LeO.refl _)
      | (with_reducible exact LeO.none _)
      | (with_reducible refine LeO.ite ?_ ?_)
      | (with_reducible refine LeO.bind ?_ (fun _ => ?_))
      | exact ih0 _ _ _ _ _
      | exact ih1 _ _ _ _ _ _ _ _ _ _
      | exact font_distance.mono _ _ _ _ _
      | exact LeO.none _
      | refine LeO.ite ?_ ?_
      | refine LeO.bind ?_ (fun _ => ?_)
    · intro y0 y1 y2 y3 y4 y5 y6 y7 y8 y9
      unfold font_Closest.l1
      repeat' first
      | (with_reducible exact ih0 _ _ _ _ _)
      | (with_reducible exact ih1 _ _ _ _ _ _ _ _ _ _)
      | (with_reducible exact font_distance.mono _ _ _ _ _)
      | (with_reducible exact LeO.refl _)
      | (with_reducible exact LeO.none _)
      | (with_reducible refine LeO.ite ?_ ?_)
      | (with_reducible refine LeO.bind ?_ (fun _ => ?_))
      | exact ih0 _ _ _ _ _
      | exact ih1 _ _ _ _ _ _ _ _ _ _
      | exact font_distance.mono _ _ _ _ _
      | exact LeO.none _
      | refine LeO.ite ?_ ?_
      | refine LeO.bind ?_ (fun _ => ?_)
theorem font_Closest.mono : ∀ k, LeO (font_Closest.f k ) (font_Closest.f (k + 1) ) := by
  intro  k
  obtain ⟨ih0, ih1⟩ := font_Closest.mono_l k
  unfold font_Closest.f
  repeat' first
      | (with_reducible exact ih0 _ _ _ _ _)
      | (with_reducible exact ih1 _ _ _ _ _ _ _ _ _ _)
      | (with_reducible exact font_distance.mono _ _ _ _ _)
      | (with_reducible exact LeO.refl _)
      | (with_reducible exact LeO.none _)
      | (with_reducible refine LeO.ite ?_ ?_)
      | (with_reducible refine LeO.bind ?_ (fun _ => ?_))
      | exact ih0 _ _ _ _ _
      | exact ih1 _ _ _ _ _ _ _ _ _ _
      | exact font_distance.mono _ _ _ _ _
      | exact LeO.none _
      | refine LeO.ite ?_ ?_
      | refine LeO.bind ?_ (fun _ => ?_)
set_option maxHeartbeats 8000000 in
set_option maxRecDepth 100000 in
theorem font_Closest.calls (k : Nat)  (r : Int) (w : World) (h : font_Closest.f k  = some r) :
    Calls Try.prog 11 #[] w fun e w' => e = .returned (.int .i64 r) ∧ Below w.heap.size w w' := by
  have hu44 := Try.underlying44
  have HB := Aside0.mk (Below.refl w.heap.size w)
  have H : ((font_table.f).bind fun t211 => (font_Closest.l0 k 35 t211 t211 (t211.length : Int) 0)) = some r := h
  clear h
  replace H := Option.bind_eq_some_iff.mp H
  obtain ⟨t211, A10, H⟩ := H
  replace H : (font_Closest.l0 k 35 t211 t211 (t211.length : Int) 0) = some r := H
  have A1 := Aside0.mk A10
  clear A10
  have H' := Aside0.mk H
  clear H
  go_enter Try.func11, Try.ntmps11
  go_wp2_with (first | ((with_reducible refine gate_callee (f := 26) rfl ?_); refine goesL_ (some 7) rfl rfl Try.func26 (by kernel_rfl) rfl #[] rfl mapx ?_; (with_reducible refine (font_table.calls  t211 _ A1.out).mono ?_); rintro e w2 ⟨v212, rfl, ho0, hb⟩; refine ⟨_, rfl, ?_⟩; have n0_ := Aside0.mk (Kd.R_lower ho0 (below_size (hb0 HB))); have n1_ := Aside0.mk (below_step (hb0 HB) hb); clear HB; have HO213 := n0_; have HB := n1_; clear n0_ n1_; (try clear hb); (try clear hb2); (try clear hk); (try clear hi); (try clear ho0); obtain ⟨Ao3, co3, eo3⟩ := Kd.R_slice HO213.out; subst eo3))
  go_loopg [1, 10] k (fun kq v1 v10 w' => ∃ (x1_1 : Int) (x10_1 : Int), v1 = .int .i64 x1_1 ∧ v10 = .int .i64 x10_1 ∧ Aside0 (font_Closest.l0 kq x1_1 t211 t211 (t211.length : Int) x10_1 = some r) ∧ Aside0 (kq ≤ k) ∧ Aside0 (Kd.R k44 44 w' w.heap.size (fun _ => True) (.slice Ao3 t211.length co3) t211) ∧ Aside0 (Kd.R k44 44 w' w.heap.size (fun _ => True) (.slice Ao3 t211.length co3) t211) ∧ Aside0 (Below w.heap.size w w'))
  case atStart => exact ⟨(35), (0), (by first | rfl | (simp; done) | (simp [*]; done)), (by first | rfl | (simp; done) | (simp [*]; done)), H', ⟨Nat.le_refl _⟩, ⟨rkx HO213⟩, ⟨rkx HO213⟩, ⟨hb0 HB⟩⟩
  case round =>
    clear H'
    try clear c1
    try clear c2
    try clear p2
    obtain ⟨x1_1, x10_1, rfl, rfl, HA, HK1, HO_2, HO_8, HB⟩ := hrel
    cases gk with
    | zero => exact absurd HA.out (by simp [font_Closest.l0])
    | succ k1 =>
      have H := HA.out
      clear HA
      simp only [font_Closest.l0] at H
      by_cases c4 : x10_1 < (t211.length : Int)
      · rw [if_pos c4] at H
        have c4b0 : decide (x10_1 < (t211.length : Int)) = true := decide_eq_true c4
        clear c4
        by_cases c5 : 0 ≤ x10_1
        · rw [if_pos c5] at H
          have c5b0 : decide (0 ≤ x10_1) = true := decide_eq_true c5
          clear c5
          by_cases c6 : x10_1 < (t211.length : Int)
          · rw [if_pos c6] at H
            have c6b0 : decide (x10_1 < (t211.length : Int)) = true := decide_eq_true c6
            clear c6
            have c7b0 := eq_true (of_decide_eq_true (by first | (with_reducible assumption) | assumption) : 0 ≤ x10_1)
            by_cases c8 : x10_1 ≤ (t211.length : Int)
            · rw [if_pos c8] at H
              have c8b0 := eq_true c8
              have c8b1 : decide (x10_1 ≤ (t211.length : Int)) = true := decide_eq_true c8
              clear c8
              obtain ⟨y216, hy216⟩ : ∃ y_ : List (S44), y_ = (t211.take (x10_1 : Int).toNat) := ⟨_, rfl⟩
              replace H : (font_Closest.l1 k1 x1_1 t211 t211 (t211.length : Int) x10_1 y216 (y216.length : Int) 0 ((rd_T44 t211 x10_1).f0) ((rd_T44 t211 x10_1).f1)) = some r := by first | (rw [hy216]; with_reducible exact H) | (have H2_ := (Option.bind_some _ _).symm.trans H; rw [hy216]; with_reducible exact H2_) | (have H2_ := (Option.bind_some _ _).symm.trans H; with_reducible exact H2_) | with_reducible exact H | (rw [hy216]; exact H) | exact H
              have Ny216 := Aside0.mk hy216
              clear hy216
              have H' := Aside0.mk H
              clear H
              have p214 : 0 ≤ (x10_1 : Int) := of_decide_eq_true (by first | (with_reducible assumption) | assumption)
              have q214 : x10_1 < (t211.length : Int) := of_decide_eq_true (by first | (with_reducible assumption) | assumption)
              obtain ⟨ad214, e214, hx214_0, hx214_1⟩ := at_T44 (Kd.R_reads' HO_8.out).2.2 x10_1 p214 q214
              cases e214
              replace p214 := eq_true p214
              replace q214 := eq_true q214
              go_wp2_with (first | ((with_reducible refine gate_dst (N := 4) rfl ?_); refine box_event ?hg (N := 4) ?hd (cs := #[.int .u8 0, .string (⟨#[]⟩ : ByteArray)]) (t := 44) ?hr ?_; (case hd => rfl); (case hg => rfl); (case hr => first | (go_simp; done) | (go_simp; rfl)); intro gb215 hg w9 hbox hb; have n0_ := Aside0.mk (Kd.R_below (Kd.R_elderB (rkx HO_2) gb215 (Nat.le_of_eq hg.symm)) hb); have n1_ := Aside0.mk (Kd.R_below (Kd.R_elderB (rkx HO_8) gb215 (Nat.le_of_eq hg.symm)) hb); have n2_ := Aside0.mk (below_step (hb0 HB) hb); have n3_ := Aside0.mk (hbox); have n4_ := Aside0.mk ((by rw [hg]; exact (below_size (hb0 HB)) : w.heap.size ≤ gb215)); have n5_ := Aside0.mk ((by rw [hg]; exact (below_size (hb0 HB)) : w.heap.size ≤ gb215)); clear HO_2; clear HO_8; clear HB; have HO_2 := n0_; have HO_8 := n1_; have HB := n2_; have BK215 := n3_; have GW215 := n4_; have GE215 := n5_; clear n0_ n1_ n2_ n3_ n4_ n5_; clear hb hbox hg; have hcz10_0 : w9.cell? ⟨gb215, 0, none⟩ = some (.int .u8 0) := (blk_cell BK215.out 0).trans rfl; have hcz10_1 : w9.cell? ⟨gb215, 1, none⟩ = some (.string (⟨#[]⟩ : ByteArray)) := (blk_cell BK215.out 1).trans rfl; have hfz10_0 := blk_frozen BK215.out 0; have hfz10_1 := blk_frozen BK215.out 1) | ((with_reducible refine gate_store (t := 44) (p := 4) rfl ?_); refine store_event (t := 44) (p := 4) (v := ?vo_w11) (w1 := ((w9.setCell ⟨gb215, 0, none⟩ (.int .u8 ((rd_T44 t211 x10_1).f0))).setCell ⟨gb215, 1, none⟩ (.string ((rd_T44 t211 x10_1).f1)))) ?hg ?ho ?hn ?hr ?_; (case ho => rfl); (case hg => rfl); (case hn => rfl); (case hr => first | (go_simp; done) | (go_simp; rfl)); intro w11 hw; have n0_ : Aside0 (Kd.R k44 44 w11 w.heap.size (fun k_ => k_ ≠ gb215) (.slice (some ad214) t211.length co3) t211) := ⟨(by rw [hw]; exact (by refine rkt ?_; exact Kd.R_mono (Kd.R_far (p := ⟨gb215, 1, none⟩) (Kd.R_far (p := ⟨gb215, 0, none⟩) (Kd.R_mono HO_2.out (fun k_ hk => (⟨hk, hk.2⟩ : _ ∧ k_ ≠ gb215))) (fun _ hk => hk.2) (.int .u8 ((rd_T44 t211 x10_1).f0))) (fun _ hk => hk.2) (.string ((rd_T44 t211 x10_1).f1))) (fun _ hk => hk.1.2)))⟩; have n1_ : Aside0 (Kd.R k44 44 w11 w.heap.size (fun k_ => k_ ≠ gb215) (.slice (some ad214) t211.length co3) t211) := ⟨(by rw [hw]; exact (by refine rkt ?_; exact Kd.R_mono (Kd.R_far (p := ⟨gb215, 1, none⟩) (Kd.R_far (p := ⟨gb215, 0, none⟩) (Kd.R_mono HO_8.out (fun k_ hk => (⟨hk, hk.2⟩ : _ ∧ k_ ≠ gb215))) (fun _ hk => hk.2) (.int .u8 ((rd_T44 t211 x10_1).f0))) (fun _ hk => hk.2) (.string ((rd_T44 t211 x10_1).f1))) (fun _ hk => hk.1.2)))⟩; have n2_ : Aside0 (w11.heap[gb215]? = some (.cells #[.int .u8 ((rd_T44 t211 x10_1).f0), .string ((rd_T44 t211 x10_1).f1)] 44 (0, 0))) := ⟨(by rw [hw]; exact (by refine bkt ?_; refine blk_put (cs := #[.int .u8 ((rd_T44 t211 x10_1).f0), .string (⟨#[]⟩ : ByteArray)]) ?_ 1 _ rfl; refine bkt ?_; refine blk_put (cs := #[.int .u8 0, .string (⟨#[]⟩ : ByteArray)]) ?_ 0 _ rfl; refine bkt ?_; exact BK215.out))⟩; have n3_ : Aside0 (Below w.heap.size w w11) := ⟨(by rw [hw]; exact (hb1 HB GE215))⟩; clear hw; clear HO_2; clear HO_8; clear BK215; clear HB; have HO_2 := n0_; have HO_8 := n1_; have BK215 := n2_; have HB := n3_; clear n0_ n1_ n2_ n3_; have q12 : (x10_1 : Int) ≤ ((t211.length : Int) : Int) := of_decide_eq_true (by first | (with_reducible assumption) | assumption); obtain ⟨i012, hi012, _, hsz12, _⟩ := info_parts info44; have hroom12 : t211.length ≤ co3 := (Kd.R_reads' HO_2.out).2.1; have hC12 : Kd.C k44 _ (some ad214) t211.length t211 := (Kd.R_reads' HO_2.out).2.2; have hcut12 := cut_to (P := Try.prog) 48 44 .i64 Try.underlying48 hi012 (some ad214) t211.length co3 x10_1 (of_decide_eq_true (by first | (with_reducible assumption) | assumption)) q12 hroom12; have hr12 := Kd.C_take (m := (x10_1 : Int).toNat) hC12 (by omega); have hy12 : y216.length = (x10_1 : Int).toNat := (by rw [Ny216.out, List.length_take]; omega); rw [← Ny216.out] at hr12; rw [← hy12] at hcut12; have HR219 := Aside0.mk hr12; have HC219 := Aside0.mk (show y216.length ≤ co3 from by omega); clear hr12 hC12 hroom12 hi012 hsz12; have KY12 := Aside0.mk hy12; clear hy12; have KL12 := Aside0.mk (show (x10_1 : Int).toNat ≤ t211.length from by omega); replace q12 := eq_true q12))
              go_loopg [1, 19] k1 (fun kq v1 v19 w' => ∃ (x1_2 : Int) (x19_2 : Int), v1 = .int .i64 x1_2 ∧ v19 = .int .i64 x19_2 ∧ Aside0 (font_Closest.l1 kq x1_2 t211 t211 (t211.length : Int) x10_1 y216 (y216.length : Int) x19_2 ((rd_T44 t211 x10_1).f0) ((rd_T44 t211 x10_1).f1) = some r) ∧ Aside0 (kq ≤ k1) ∧ Aside0 (Kd.R k44 44 w' w.heap.size (fun k_ => k_ ≠ gb215) (.slice (some ad214) t211.length co3) t211) ∧ Aside0 (Kd.R k44 44 w' w.heap.size (fun k_ => k_ ≠ gb215) (.slice (some ad214) t211.length co3) t211) ∧ Aside0 (w'.heap[gb215]? = some (.cells #[.int .u8 ((rd_T44 t211 x10_1).f0), .string ((rd_T44 t211 x10_1).f1)] 44 (0, 0))) ∧ Aside0 (Kd.C k44 w' (some ad214) y216.length y216) ∧ Aside0 (Below w.heap.size w w'))
              case atStart => exact ⟨(x1_1), (0), (by first | rfl | (simp; done) | (simp [*]; done)), (by first | rfl | (simp; done) | (simp [*]; done)), H', ⟨Nat.le_refl _⟩, ⟨rkx HO_2⟩, ⟨rkx HO_8⟩, ⟨bkx BK215⟩, ⟨by repeat (first | (with_reducible exact HR219.out) | (with_reducible refine Kd.C_alloc ?_ _) | (with_reducible refine Kd.C_drewN ?_ _) | (with_reducible refine Kd.C_drew ?_) | exact HR219.out)⟩, ⟨hb1 HB GE215⟩⟩
              case round =>
                clear H'
                try clear c1
                try clear q1
                try clear c2
                try clear p2
                try clear q2
                try clear hx2
                try clear c4
                try clear c4b0
                try clear c5
                try clear c5b0
                try clear c6
                try clear c6b0
                try clear c7
                try clear c7b0
                try clear c8
                try clear c8b0
                try clear c8b1
                try clear c11
                try clear q12
                try clear hcz10_0
                try clear hcz10_1
                try clear hfz10_0
                try clear hfz10_1
                try clear hx214_0
                try clear hx214_1
                try clear p2
                try clear p214
                try clear q12
                try clear q214
                obtain ⟨x1_2, x19_2, rfl, rfl, HA, HK2, HO_2, HO_8, BK215, HR219, HB⟩ := hrel
                cases gk with
                | zero => exact absurd HA.out (by simp [font_Closest.l1])
                | succ k2 =>
                  have H := HA.out
                  clear HA
                  simp only [font_Closest.l1] at H
                  by_cases c13 : x19_2 < (y216.length : Int)
                  · rw [if_pos c13] at H
                    have c13b0 : decide (x19_2 < (y216.length : Int)) = true := decide_eq_true c13
                    clear c13
                    by_cases c14 : 0 ≤ x19_2
                    · rw [if_pos c14] at H
                      have c14b0 : decide (0 ≤ x19_2) = true := decide_eq_true c14
                      clear c14
                      by_cases c15 : x19_2 < (y216.length : Int)
                      · rw [if_pos c15] at H
                        have c15b0 : decide (x19_2 < (y216.length : Int)) = true := decide_eq_true c15
                        clear c15
                        replace H := Option.bind_eq_some_iff.mp H
                        obtain ⟨t222, A160, H⟩ := H
                        replace H : (font_Closest.l1 k2 (mn x1_2 t222) t211 t211 (t211.length : Int) x10_1 y216 (y216.length : Int) (wrap64 (x19_2 + 1)) ((rd_T44 t211 x10_1).f0) ((rd_T44 t211 x10_1).f1)) = some r := H
                        have A16 := Aside0.mk A160
                        clear A160
                        obtain ⟨ji17, hji17⟩ : ∃ j_ : Int, (mn x1_2 t222) = j_ := ⟨_, rfl⟩
                        replace H : (font_Closest.l1 k2 ji17 t211 t211 (t211.length : Int) x10_1 y216 (y216.length : Int) (wrap64 (x19_2 + 1)) ((rd_T44 t211 x10_1).f0) ((rd_T44 t211 x10_1).f1)) = some r := by first | (rw [hji17] at H; exact H) | (simp only [hji17] at H ⊢; exact H)
                        (try rw [hji17] at A16)
                        have hji17_ : (if t222 < x1_2 then t222 else x1_2) = ji17 := hji17
                        have H' := Aside0.mk H
                        clear H
                        have p220 : 0 ≤ (x19_2 : Int) := of_decide_eq_true (by first | (with_reducible assumption) | assumption)
                        have q220 : x19_2 < (y216.length : Int) := of_decide_eq_true (by first | (with_reducible assumption) | assumption)
                        obtain ⟨ad220, e220, hx220_0, hx220_1⟩ := at_T44 HR219.out x19_2 p220 q220
                        obtain rfl : ad214 = ad220 := (by injection e220)
                        replace p220 := eq_true p220
                        replace q220 := eq_true q220
                        go_wp2_with (first | ((with_reducible refine gate_dst (N := 6) rfl ?_); refine box_event ?hg (N := 6) ?hd (cs := #[.int .u8 0, .string (⟨#[]⟩ : ByteArray)]) (t := 44) ?hr ?_; (case hd => rfl); (case hg => rfl); (case hr => first | (go_simp; done) | (go_simp; rfl)); intro gb221 hg w18 hbox hb; have n0_ := Aside0.mk (Kd.R_below (Kd.R_elderB (rkx HO_2) gb221 (Nat.le_of_eq hg.symm)) hb); have n1_ := Aside0.mk (Kd.R_below (Kd.R_elderB (rkx HO_8) gb221 (Nat.le_of_eq hg.symm)) hb); have n2_ := Aside0.mk (blk_below (bkx BK215) hb); have n3_ := Aside0.mk (Kd.C_below (by repeat (first | (with_reducible exact HR219.out) | (with_reducible refine Kd.C_alloc ?_ _) | (with_reducible refine Kd.C_drewN ?_ _) | (with_reducible refine Kd.C_drew ?_) | exact HR219.out)) hb); have n4_ := Aside0.mk (below_step (hb1 HB GE215) hb); have n5_ := Aside0.mk (hbox); have n6_ := Aside0.mk ((by rw [hg]; exact (below_size (hb1 HB GE215)) : w.heap.size ≤ gb221)); have n7_ := Aside0.mk ((by rw [hg]; exact (below_size (hb1 HB GE215)) : w.heap.size ≤ gb221)); have n8_ := Aside0.mk (nel hg BK215 : gb215 ≠ gb221); have n9_ := Aside0.mk (neg hg BK215 : gb221 ≠ gb215); clear HO_2; clear HO_8; clear BK215; clear HR219; clear HB; have HO_2 := n0_; have HO_8 := n1_; have BK215 := n2_; have HR219 := n3_; have HB := n4_; have BK221 := n5_; have GW221 := n6_; have GE221 := n7_; have NB215_221 := n8_; have NB221_215 := n9_; clear n0_ n1_ n2_ n3_ n4_ n5_ n6_ n7_ n8_ n9_; clear hb hbox hg; have hnb19 := NB221_215.out; have hnc19 := NB215_221.out; have hcz20_0 : w18.cell? ⟨gb221, 0, none⟩ = some (.int .u8 0) := (blk_cell BK221.out 0).trans rfl; have hcz20_1 : w18.cell? ⟨gb221, 1, none⟩ = some (.string (⟨#[]⟩ : ByteArray)) := (blk_cell BK221.out 1).trans rfl; have hfz20_0 := blk_frozen BK221.out 0; have hfz20_1 := blk_frozen BK221.out 1; have hcz21_0 : w18.cell? ⟨gb215, 0, none⟩ = some (.int .u8 ((rd_T44 t211 x10_1).f0)) := (blk_cell BK215.out 0).trans rfl; have hcz21_1 : w18.cell? ⟨gb215, 1, none⟩ = some (.string ((rd_T44 t211 x10_1).f1)) := (blk_cell BK215.out 1).trans rfl; have hfz21_0 := blk_frozen BK215.out 0; have hfz21_1 := blk_frozen BK215.out 1) | ((with_reducible refine gate_callee (f := 25) rfl ?_); refine goesL_ (some 26) rfl rfl Try.func25 (by kernel_rfl) rfl #[.agg #[.int .u8 ((rd_T44 t211 x10_1).f0), .string ((rd_T44 t211 x10_1).f1)], .agg #[.int .u8 ((rd_T44 y216 x19_2).f0), .string ((rd_T44 y216 x19_2).f1)]] rfl mapx ?_; (with_reducible refine (font_distance.calls k2 ((rd_T44 t211 x10_1).f0) ((rd_T44 t211 x10_1).f1) ((rd_T44 y216 x19_2).f0) ((rd_T44 y216 x19_2).f1) t222 _ A16.out).mono ?_); rintro e w22 ⟨rfl, hb⟩; refine ⟨_, rfl, ?_⟩; have n0_ := Aside0.mk (Kd.R_below (by refine rkt ?_; exact (Kd.R_mono (Kd.R_far (p := ⟨gb221, 1, none⟩) (Kd.R_far (p := ⟨gb221, 0, none⟩) (Kd.R_mono HO_2.out (fun k_ hk => (⟨hk, hk.2⟩ : _ ∧ k_ ≠ gb221))) (fun _ hk => hk.2) (.int .u8 ((rd_T44 y216 x19_2).f0))) (fun _ hk => hk.2) (.string ((rd_T44 y216 x19_2).f1))) (fun _ h_ => h_.1))) hb); have n1_ := Aside0.mk (Kd.R_below (by refine rkt ?_; exact (Kd.R_mono (Kd.R_far (p := ⟨gb221, 1, none⟩) (Kd.R_far (p := ⟨gb221, 0, none⟩) (Kd.R_mono HO_8.out (fun k_ hk => (⟨hk, hk.2⟩ : _ ∧ k_ ≠ gb221))) (fun _ hk => hk.2) (.int .u8 ((rd_T44 y216 x19_2).f0))) (fun _ hk => hk.2) (.string ((rd_T44 y216 x19_2).f1))) (fun _ h_ => h_.1))) hb); have n2_ := Aside0.mk (blk_below (g := gb215) (o := .cells #[.int .u8 ((rd_T44 t211 x10_1).f0), .string ((rd_T44 t211 x10_1).f1)] 44 (0, 0)) (bky BK215 NB215_221) hb); have n3_ := Aside0.mk (Kd.C_below ((Eq.mpr (congrArg (fun l_ => Kd.C k44 _ (some ad214) l_.length l_) Ny216.out) (Kd.C_take (m := (x10_1 : Int).toNat) ((Kd.R_reads' (by refine rkt ?_; exact (Kd.R_mono (Kd.R_far (p := ⟨gb221, 1, none⟩) (Kd.R_far (p := ⟨gb221, 0, none⟩) (Kd.R_mono HO_2.out (fun k_ hk => (⟨hk, hk.2⟩ : _ ∧ k_ ≠ gb221))) (fun _ hk => hk.2) (.int .u8 ((rd_T44 y216 x19_2).f0))) (fun _ hk => hk.2) (.string ((rd_T44 y216 x19_2).f1))) (fun _ h_ => h_.1)))).2.2) KL12.out))) hb); have n4_ := Aside0.mk (blk_below (g := gb221) (o := .cells #[.int .u8 ((rd_T44 y216 x19_2).f0), .string ((rd_T44 y216 x19_2).f1)] 44 (0, 0)) (by refine bkt ?_; refine blk_put (cs := #[.int .u8 ((rd_T44 y216 x19_2).f0), .string (⟨#[]⟩ : ByteArray)]) ?_ 1 _ rfl; refine bkt ?_; refine blk_put (cs := #[.int .u8 0, .string (⟨#[]⟩ : ByteArray)]) ?_ 0 _ rfl; refine bkt ?_; exact BK221.out) hb); have n5_ := Aside0.mk (below_step (hb2 HB GE215 GE221) hb); clear HO_2; clear HO_8; clear BK215; clear HR219; clear BK221; clear HB; have HO_2 := n0_; have HO_8 := n1_; have BK215 := n2_; have HR219 := n3_; have BK221 := n4_; have HB := n5_; clear n0_ n1_ n2_ n3_ n4_ n5_; (try clear hb); (try clear hb2); (try clear hk); (try clear hi)))
                        go_roundg k2
                        case measure => have := HK1.out; have := HK2.out; omega
                        case rel => exact ⟨(ji17), (wrap64 (x19_2 + 1)), (by first | rfl | (simp; done) | (simp only [← hji17] <;> (first | rfl | simp)) | (simp [*]; done)), (by first | rfl | (simp; done) | (simp [*]; done)), H', ⟨by have := HK1.out; have := HK2.out; omega⟩, ⟨by refine rkt ?_; exact Kd.R_mono HO_2.out (fun _ hk => hk.1)⟩, ⟨by refine rkt ?_; exact Kd.R_mono HO_8.out (fun _ hk => hk.1)⟩, ⟨bkx BK215⟩, ⟨by repeat (first | (with_reducible exact HR219.out) | (with_reducible refine Kd.C_alloc ?_ _) | (with_reducible refine Kd.C_drewN ?_ _) | (with_reducible refine Kd.C_drew ?_) | exact HR219.out)⟩, ⟨hb2 HB GE215 GE221⟩⟩
                      · rw [if_neg c15] at H
                        exact absurd H (by simp)
                    · rw [if_neg c14] at H
                      exact absurd H (by simp)
                  · rw [if_neg c13] at H
                    have c13b0 : decide (x19_2 < (y216.length : Int)) = false := decide_eq_false c13
                    clear c13
                    have H' := Aside0.mk H
                    clear H
                    go_wp2
                    go_roundg k2
                    case measure => have := HK1.out; have := HK2.out; omega
                    case rel => exact ⟨(x1_2), (wrap64 (x10_1 + 1)), (by first | rfl | (simp; done) | (simp [*]; done)), (by first | rfl | (simp; done) | (simp [*]; done)), H', ⟨by have := HK1.out; have := HK2.out; omega⟩, ⟨by refine rkt ?_; exact Kd.R_mono HO_2.out (fun _ hk => trivial)⟩, ⟨by refine rkt ?_; exact Kd.R_mono HO_8.out (fun _ hk => trivial)⟩, ⟨hb1 HB GE215⟩⟩
            · rw [if_neg c8] at H
              exact absurd H (by simp)
          · rw [if_neg c6] at H
            exact absurd H (by simp)
        · rw [if_neg c5] at H
          exact absurd H (by simp)
      · rw [if_neg c4] at H
        have c4b0 : decide (x10_1 < (t211.length : Int)) = false := decide_eq_false c4
        clear c4
        obtain rfl := Option.some.inj H
        go_wp2
        go_ret
        exact ⟨by first | rfl | (simp [errW_none, errW_some] <;> rfl) | (simp [*, errW_none, errW_some] <;> rfl), by repeat (first | (with_reducible first | exact HB.out | apply below_alloc | apply pw_below_drewN | apply below_drew1) | exact HB.out)⟩

end Go.Proofs.Ytghfcdgdbdeomaa.PR
