-- Written by this session's own program (myprint.py).
import Derived.Test.YtcmcmoaikabfoaaPRx0
import Derived.Test.YtcmcmoaikabfoaaPRx1
import Derived.Test.YtcmcmoaikabfoaaPRx2
namespace Go.Proofs.Ytcmcmoaikabfoaa.PR
open Go.RowKit Go.Proofs.YtcmcmoaikabfoaaW.PrintWords Go.Proofs.YtcmcmoaikabfoaaW.PrintLast Go.Proofs.YtcmcmoaikabfoaaW.PrintMore Go.Proofs.Ytcmcmoaikabfoaa.XWords Go.Proofs.Ytcmcmoaikabfoaa.XShort
attribute [local go_sem] max2_int min2_int max_two min_two max_three min_three max_four min_four   -- for this text's walks alone
set_option linter.unusedVariables false
set_option linter.unusedSimpArgs false

attribute [local go_sem high] eqA26
/-! ### raster_turned_bool: function 52 -/
mutual
def raster_turned_bool.l0 : Nat → List Bool → Int → Int → List Bool → Int → Int → Option (List Bool)
 | 0, _, _, _, _, _, _ => none
 | k + 1, x0, x1, x2, x7, x13, x14 => if x14 < x13 then (raster_turned_bool.l1 k x0 x1 x2 x7 x14 x13 x14 x2 0) else (some x7)
def raster_turned_bool.l1 : Nat → List Bool → Int → Int → List Bool → Int → Int → Int → Int → Int → Option (List Bool)
 | 0, _, _, _, _, _, _, _, _, _ => none
 | k + 1, x0, x1, x2, x7, x8, x13, x14, x17, x18 => if x18 < x17 then (if 0 ≤ (wrap64 ((wrap64 ((wrap64 ((wrap64 (x2 - 1)) - x18)) * x1)) + x8)) then (if (wrap64 ((wrap64 ((wrap64 ((wrap64 (x2 - 1)) - x18)) * x1)) + x8)) < (x0.length : Int) then (if x7.length < 140737488355328 then (raster_turned_bool.l1 k x0 x1 x2 (x7 ++ [rdOf false x0 (wrap64 ((wrap64 ((wrap64 ((wrap64 (x2 - 1)) - x18)) * x1)) + x8))]) x8 x13 x14 x17 (wrap64 (x18 + 1))) else (none)) else (none)) else (none)) else (raster_turned_bool.l0 k x0 x1 x2 x7 x13 (wrap64 (x14 + 1)))
end
def raster_turned_bool.f (k : Nat) (l0 : List Bool) (a1 : Int) (a2 : Int) : Option (List Bool) := if 0 ≤ (l0.length : Int) then (if ((l0.length : Int) : Int).toNat ≤ 281474976710656 then (raster_turned_bool.l0 k l0 a1 a2 (([] : List Bool)) a1 0) else (none)) else (none)
theorem raster_turned_bool.mono_l : ∀ k, (∀ y0 y1 y2 y3 y4 y5, LeO (raster_turned_bool.l0 k y0 y1 y2 y3 y4 y5) (raster_turned_bool.l0 (k + 1) y0 y1 y2 y3 y4 y5)) ∧ (∀ y0 y1 y2 y3 y4 y5 y6 y7 y8, LeO (raster_turned_bool.l1 k y0 y1 y2 y3 y4 y5 y6 y7 y8) (raster_turned_bool.l1 (k + 1) y0 y1 y2 y3 y4 y5 y6 y7 y8))
 | 0 => ⟨fun _ _ _ _ _ _ r h => by simp [raster_turned_bool.l0] at h, fun _ _ _ _ _ _ _ _ _ r h => by simp [raster_turned_bool.l1] at h⟩
 | k + 1 => by
  obtain ⟨ih0, ih1⟩ := raster_turned_bool.mono_l k
  refine ⟨?_, ?_⟩
  ·intro y0 y1 y2 y3 y4 y5
   unfold raster_turned_bool.l0
   repeat' first
   | (with_reducible exact ih0 _ _ _ _ _ _)
   | (with_reducible exact ih1 _ _ _ _ _ _ _ _ _)
   | (with_reducible exact LeO.refl _)
   | (with_reducible exact LeO.none _)
   | (with_reducible refine LeO.ite ?_ ?_)
   | (with_reducible refine LeO.bind ?_ (fun _ => ?_))
   | exact ih0 _ _ _ _ _ _
   | exact ih1 _ _ _ _ _ _ _ _ _
   | exact LeO.none _
   | refine LeO.ite ?_ ?_
   | refine LeO.bind ?_ (fun _ => ?_)
  ·intro y0 y1 y2 y3 y4 y5 y6 y7 y8
   unfold raster_turned_bool.l1
   repeat' first
   | (with_reducible exact ih0 _ _ _ _ _ _)
   | (with_reducible exact ih1 _ _ _ _ _ _ _ _ _)
   | (with_reducible exact LeO.refl _)
   | (with_reducible exact LeO.none _)
   | (with_reducible refine LeO.ite ?_ ?_)
   | (with_reducible refine LeO.bind ?_ (fun _ => ?_))
   | exact ih0 _ _ _ _ _ _
   | exact ih1 _ _ _ _ _ _ _ _ _
   | exact LeO.none _
   | refine LeO.ite ?_ ?_
   | refine LeO.bind ?_ (fun _ => ?_)
theorem raster_turned_bool.mono : ∀ a0 a1 a2 k, LeO (raster_turned_bool.f k a0 a1 a2) (raster_turned_bool.f (k + 1) a0 a1 a2) := by
 intro a0 a1 a2 k
 obtain ⟨ih0, ih1⟩ := raster_turned_bool.mono_l k
 unfold raster_turned_bool.f
 repeat' first
   | (with_reducible exact ih0 _ _ _ _ _ _)
   | (with_reducible exact ih1 _ _ _ _ _ _ _ _ _)
   | (with_reducible exact LeO.refl _)
   | (with_reducible exact LeO.none _)
   | (with_reducible refine LeO.ite ?_ ?_)
   | (with_reducible refine LeO.bind ?_ (fun _ => ?_))
   | exact ih0 _ _ _ _ _ _
   | exact ih1 _ _ _ _ _ _ _ _ _
   | exact LeO.none _
   | refine LeO.ite ?_ ?_
   | refine LeO.bind ?_ (fun _ => ?_)
set_option maxHeartbeats 8000000 in
set_option maxRecDepth 100000 in
theorem raster_turned_bool.calls (k : Nat) (A0 : Option Addr) (c0 : Nat) (l0 : List Bool) (a1 : Int) (a2 : Int) (r : List Bool) (w : World) (hr0 : Kd.C Kd.bool w A0 l0.length l0) (hc0 : l0.length ≤ c0) (h : raster_turned_bool.f k l0 a1 a2 = some r) :
  Calls Try.prog 52 #[.slice A0 l0.length c0, .int .i64 a1, .int .i64 a2] w fun e w' => ∃ v0_ : Value, e = .returned (v0_) ∧ Kd.R Kd.bool 4 w' w.heap.size (fun _ => True) v0_ r ∧ Below w.heap.size w w' := by
 have HR0 := Aside0.mk hr0
 have HC0 := Aside0.mk hc0
 clear hr0 hc0
 have HB := Aside0.mk (Below.refl w.heap.size w)
 have H : (if 0 ≤ (l0.length : Int) then (if ((l0.length : Int) : Int).toNat ≤ 281474976710656 then (raster_turned_bool.l0 k l0 a1 a2 (([] : List Bool)) a1 0) else (none)) else (none)) = some r := h
 clear h
 by_cases c4 : 0 ≤ (l0.length : Int)
 ·rw [if_pos c4] at H
  have c4b0 := eq_true c4
  have c4b1 : decide (0 ≤ (l0.length : Int)) = true := decide_eq_true c4
  clear c4
  by_cases c5 : ((l0.length : Int) : Int).toNat ≤ 281474976710656
  ·rw [if_pos c5] at H
   have c5b0 := eq_true c5
   have c5b1 : decide (((l0.length : Int) : Int).toNat ≤ 281474976710656) = true := decide_eq_true c5
   clear c5
   obtain ⟨y134, hy134⟩ : ∃ y_ : List Bool, y_ = (([] : List Bool)) := ⟨_, rfl⟩
   replace H : (raster_turned_bool.l0 k l0 a1 a2 y134 a1 0) = some r := by first | (rw [hy134]; with_reducible exact H) | (have H2_ := (Option.bind_some _ _).symm.trans H; rw [hy134]; with_reducible exact H2_) | (have H2_ := (Option.bind_some _ _).symm.trans H; with_reducible exact H2_) | with_reducible exact H | (rw [hy134]; exact H) | exact H
   have Ny134 := Aside0.mk hy134
   clear hy134
   have H' := Aside0.mk H
   clear H
   go_enter Try.func52, Try.ntmps52
   go_wp2_with (first | ((with_reducible refine gate_dst (N := 12) rfl ?_); refine R_makecap Kd.bool _ 4 rfl (N := 12) rfl 22 _ _ rfl (l0.length : Int) rfl rfl Try.underlying22 (.bool false) 1 info4 rfl (by decide) (by omega) (ok := fun _ => True) trivial (of_decide_eq_true (by first | (with_reducible assumption) | assumption)) (Nat.le_trans (Nat.mul_le_mul_right _ (of_decide_eq_true (by first | (with_reducible assumption) | assumption) : (l0.length : Int).toNat ≤ 281474976710656)) (by omega)) (Below.refl _ _) (Nat.le_refl _) ?_; intro v135 w6 ho7 hb hg_ hnew_; clear hg_ hnew_; (first | rw [← Ny134.out] at ho7 | (simp only [Int.reduceToNat] at ho7; rw [← Ny134.out] at ho7)); have n0_ := Aside0.mk (Kd.R_lower ho7 (below_size (hb0 HB))); have n1_ := Aside0.mk (below_step (hb0 HB) hb); clear HB; have HO136 := n0_; have HB := n1_; clear n0_ n1_; clear hb ho7))
   go_loopg [7, 14] k (fun kq v7 v14 w' => ∃ (x7_1 : List Bool) (x14_1 : Int), v14 = .int .i64 x14_1 ∧ Aside0 (raster_turned_bool.l0 kq l0 a1 a2 x7_1 a1 x14_1 = some r) ∧ Aside0 (kq ≤ k) ∧ Aside0 (Kd.R Kd.bool 4 w' w.heap.size (fun _ => True) v7 x7_1) ∧ Aside0 (Below w.heap.size w w'))
   case atStart => exact ⟨(y134), (0), (by first | rfl | (simp; done) | (simp [*]; done)), H', ⟨Nat.le_refl _⟩, ⟨rkx HO136⟩, ⟨hb0 HB⟩⟩
   case round =>
    clear H'
    try clear p2
    try clear c4
    try clear c4b0
    try clear c4b1
    try clear c5
    try clear c5b0
    try clear c5b1
    obtain ⟨x7_1, x14_1, rfl, HA, HK1, HO_7, HB⟩ := hrel
    cases gk with
    | zero => exact absurd HA.out (by simp [raster_turned_bool.l0])
    | succ k1 =>
     have H := HA.out
     clear HA
     simp only [raster_turned_bool.l0] at H
     by_cases c8 : x14_1 < a1
     ·rw [if_pos c8] at H
      have c8b0 : decide (x14_1 < a1) = true := decide_eq_true c8
      clear c8
      have H' := Aside0.mk H
      clear H
      go_wp2
      go_loopg [7, 18] k1 (fun kq v7 v18 w' => ∃ (x7_2 : List Bool) (x18_2 : Int), v18 = .int .i64 x18_2 ∧ Aside0 (raster_turned_bool.l1 kq l0 a1 a2 x7_2 x14_1 a1 x14_1 a2 x18_2 = some r) ∧ Aside0 (kq ≤ k1) ∧ Aside0 (Kd.R Kd.bool 4 w' w.heap.size (fun _ => True) v7 x7_2) ∧ Aside0 (Below w.heap.size w w'))
      case atStart => exact ⟨(x7_1), (0), (by first | rfl | (simp; done) | (simp [*]; done)), H', ⟨Nat.le_refl _⟩, ⟨rkx HO_7⟩, ⟨hb0 HB⟩⟩
      case round =>
       clear H'
       try clear p2
       try clear c4
       try clear c4b0
       try clear c4b1
       try clear c5
       try clear c5b0
       try clear c5b1
       try clear c8
       try clear c8b0
       try clear p2
       obtain ⟨x7_2, x18_2, rfl, HA, HK2, HO_7, HB⟩ := hrel
       cases gk with
       | zero => exact absurd HA.out (by simp [raster_turned_bool.l1])
       | succ k2 =>
        have H := HA.out
        clear HA
        simp only [raster_turned_bool.l1] at H
        by_cases c9 : x18_2 < a2
        ·rw [if_pos c9] at H
         have c9b0 : decide (x18_2 < a2) = true := decide_eq_true c9
         clear c9
         obtain ⟨ji10, hji10⟩ : ∃ j_ : Int, (wrap64 ((wrap64 ((wrap64 ((wrap64 (a2 - 1)) - x18_2)) * a1)) + x14_1)) = j_ := ⟨_, rfl⟩
         replace H : (if 0 ≤ (ji10) then (if (ji10) < (l0.length : Int) then (if x7_2.length < 140737488355328 then (raster_turned_bool.l1 k2 l0 a1 a2 (x7_2 ++ [rdOf false l0 (ji10)]) x14_1 a1 x14_1 a2 (wrap64 (x18_2 + 1))) else (none)) else (none)) else (none)) = some r := by first | (rw [hji10] at H; exact H) | (simp only [hji10] at H ⊢; exact H)
         have hji10w : (IntKind.i64.wrap ((wrap64 ((wrap64 ((wrap64 (a2 - 1)) - x18_2)) * a1)) + x14_1)) = ji10 := (i64_w _).trans hji10
         by_cases c11 : 0 ≤ (ji10)
         ·rw [if_pos c11] at H
          have c11b0 : decide (0 ≤ (ji10)) = true := decide_eq_true c11
          clear c11
          by_cases c12 : (ji10) < (l0.length : Int)
          ·rw [if_pos c12] at H
           have c12b0 : decide ((ji10) < (l0.length : Int)) = true := decide_eq_true c12
           clear c12
           by_cases c13 : x7_2.length < 140737488355328
           ·rw [if_pos c13] at H
            have LMc13 := Aside0.mk c13
            clear c13
            obtain ⟨y138, hy138⟩ : ∃ y_ : List Bool, y_ = (x7_2 ++ [rdOf false l0 (ji10)]) := ⟨_, rfl⟩
            replace H : (raster_turned_bool.l1 k2 l0 a1 a2 y138 x14_1 a1 x14_1 a2 (wrap64 (x18_2 + 1))) = some r := by first | (rw [hy138]; with_reducible exact H) | (have H2_ := (Option.bind_some _ _).symm.trans H; rw [hy138]; with_reducible exact H2_) | (have H2_ := (Option.bind_some _ _).symm.trans H; with_reducible exact H2_) | with_reducible exact H | (rw [hy138]; exact H) | exact H
            have Ny138 := Aside0.mk hy138
            clear hy138
            have H' := Aside0.mk H
            clear H
            have p137 : 0 ≤ ((ji10) : Int) := of_decide_eq_true (by first | (with_reducible assumption) | assumption)
            have q137 : (ji10) < (l0.length : Int) := of_decide_eq_true (by first | (with_reducible assumption) | assumption)
            obtain ⟨ad137, e137, hx137_0⟩ := Kd.at_bool HR0.out (ji10) p137 q137
            cases e137
            replace hx137_0 := (HB.out.cell (World.block_lt_of_cell? w _ hx137_0)).trans hx137_0
            replace p137 := eq_true p137
            replace q137 := eq_true q137
            go_wp2_with (first | ((with_reducible refine gate_builtin (b := .append) (xs := #[.tmp 21, .tmp 33]) rfl ?_); at_builtin; refine Kd.R_append Kd.bool (w0 := w) w.heap.size rfl (.tmp 21) (.tmp 33) 22 4 (.bool false) 1 rfl Try.underlying22 info4 rfl (by decide) (by omega) u7 x7_2 (rdOf false l0 (ji10)) [.bool (rdOf false l0 (ji10))] (fun _ => True) (fun _ => False) rfl rfl ?aP (fun _ hk => hk.elim) ?aF ?aO ?aB ?aS ?aL ?_; (case aP => exact rfl); (case aB => exact (hb0 HB)); (case aF => exact (fun _ _ => trivial)); (case aO => exact (rkx HO_7)); (case aS => exact (below_size (hb0 HB))); (case aL => have := LMc13.out; omega); intro v139 w14 ho hb hg hat; rw [← Ny138.out] at ho; have n0_ := Aside0.mk (hb); have n1_ := Aside0.mk (ho); clear HB; clear HO_7; have HB := n0_; have HO140 := n1_; clear n0_ n1_; clear ho hb hg hat))
            go_roundg k2
            case measure => have := HK1.out; have := HK2.out; omega
            case rel => exact ⟨(y138), (wrap64 (x18_2 + 1)), (by first | rfl | (simp; done) | (simp [*]; done)), H', ⟨by have := HK1.out; have := HK2.out; omega⟩, ⟨rkx HO140⟩, ⟨hb0 HB⟩⟩
           ·rw [if_neg c13] at H
            exact absurd H (by simp)
          ·rw [if_neg c12] at H
           exact absurd H (by simp)
         ·rw [if_neg c11] at H
          exact absurd H (by simp)
        ·rw [if_neg c9] at H
         have c9b0 : decide (x18_2 < a2) = false := decide_eq_false c9
         clear c9
         have H' := Aside0.mk H
         clear H
         go_wp2
         go_roundg k2
         case measure => have := HK1.out; have := HK2.out; omega
         case rel => exact ⟨(x7_2), (wrap64 (x14_1 + 1)), (by first | rfl | (simp; done) | (simp [*]; done)), H', ⟨by have := HK1.out; have := HK2.out; omega⟩, ⟨rkx HO_7⟩, ⟨hb0 HB⟩⟩
     ·rw [if_neg c8] at H
      have c8b0 : decide (x14_1 < a1) = false := decide_eq_false c8
      clear c8
      obtain rfl := Option.some.inj H
      go_wp2
      go_ret
      exact ⟨_, by first | rfl | (simp [errW_none, errW_some] <;> rfl) | (simp [*, errW_none, errW_some] <;> rfl), by refine rkt ?_; exact HO_7.out, by repeat (first | (with_reducible first | exact HB.out | apply below_alloc | apply pw_below_drewN | apply below_drew1) | exact HB.out)⟩
  ·rw [if_neg c5] at H
   exact absurd H (by simp)
 ·rw [if_neg c4] at H
  exact absurd H (by simp)

/-! ### raster_Turn: function 24 -/
def raster_Turn.l0 : Nat → Int → Int → Int → Int → List Bool → Option (Int × Int × List Bool × Int)
 | 0, _, _, _, _, _ => none
 | k + 1, x17, x18, x150000, x150001, x150002 => if x18 < x17 then ((raster_turned_bool.f k x150002 x150000 x150001).bind fun t150 => (raster_Turn.l0 k x17 (wrap64 (x18 + 1)) x150001 x150000 t150)) else (some (x150000, x150001, x150002, 0))
def raster_Turn.f (k : Nat) (a0_0 : Int) (a0_1 : Int) (l0_2 : List Bool) (a1 : Int) : Option (Int × Int × List Bool × Int) := (raster_Check.f a0_0 a0_1 l0_2).bind fun t143 => (if t143 = 0 then ((raster_clone.f a0_0 a0_1 l0_2).bind fun bt144 => (raster_Turn.l0 k (Go.bits .and .i64 a1 3) 0 bt144.1 bt144.2.1 bt144.2.2)) else (some (0, 0, ([] : List Bool), t143)))
theorem raster_Turn.mono_l : ∀ k, (∀ y0 y1 y2 y3 y4, LeO (raster_Turn.l0 k y0 y1 y2 y3 y4) (raster_Turn.l0 (k + 1) y0 y1 y2 y3 y4))
 | 0 => fun _ _ _ _ _ r h => by simp [raster_Turn.l0] at h
 | k + 1 => by
  have ih0 := raster_Turn.mono_l k
  ·intro y0 y1 y2 y3 y4
   unfold raster_Turn.l0
   repeat' first
   | (with_reducible exact ih0 _ _ _ _ _)
   | (with_reducible exact raster_turned_bool.mono _ _ _ _)
   | (with_reducible exact LeO.refl _)
   | (with_reducible exact LeO.none _)
   | (with_reducible refine LeO.ite ?_ ?_)
   | (with_reducible refine LeO.bind ?_ (fun _ => ?_))
   | exact ih0 _ _ _ _ _
   | exact raster_turned_bool.mono _ _ _ _
   | exact LeO.none _
   | refine LeO.ite ?_ ?_
   | refine LeO.bind ?_ (fun _ => ?_)
theorem raster_Turn.mono : ∀ a0 a1 a2 a3 k, LeO (raster_Turn.f k a0 a1 a2 a3) (raster_Turn.f (k + 1) a0 a1 a2 a3) := by
 intro a0 a1 a2 a3 k
 have ih0 := raster_Turn.mono_l k
 unfold raster_Turn.f
 repeat' first
   | (with_reducible exact ih0 _ _ _ _ _)
   | (with_reducible exact raster_turned_bool.mono _ _ _ _)
   | (with_reducible exact LeO.refl _)
   | (with_reducible exact LeO.none _)
   | (with_reducible refine LeO.ite ?_ ?_)
   | (with_reducible refine LeO.bind ?_ (fun _ => ?_))
   | exact ih0 _ _ _ _ _
   | exact raster_turned_bool.mono _ _ _ _
   | exact LeO.none _
   | refine LeO.ite ?_ ?_
   | refine LeO.bind ?_ (fun _ => ?_)
def raster_Turn.T7 : Bool × List (List Nat × List Nat) := (true, [([], []), ([0], [0]), ([], []), ([2], [2]), ([], []), ([4], [4]), ([], []), ([6], [6]), ([], []), ([8], [8]), ([5, 7, 9], [5, 7, 9]), ([1, 3, 10], [1, 3, 10]), ([11, 10, 0, 1, 2, 3, 4, 5, 6, 7, 8, 9, 10, 11], [11])])
def raster_Turn.B7 : List Nat := [0, 1, 0, 4, 0, 16, 0, 64, 0, 256, 1008, 2047, 4095]
theorem raster_Turn.tab7 : rtab .any (opsOf Try.f24 7) = raster_Turn.T7 := by kernel_rfl
theorem raster_Turn.bits7 : waitsOk raster_Turn.T7.2 raster_Turn.B7 = true := by kernel_rfl
set_option maxHeartbeats 8000000 in
set_option maxRecDepth 100000 in
theorem raster_Turn.calls (k : Nat) (a0_0 : Int) (a0_1 : Int) (A0_2 : Option Addr) (c0_2 : Nat) (l0_2 : List Bool) (a1 : Int) (r1 : Int) (r2 : Int) (r3 : List Bool) (r4 : Int) (w : World) (hr0_2 : Kd.C Kd.bool w A0_2 l0_2.length l0_2) (hc0_2 : l0_2.length ≤ c0_2) (h : raster_Turn.f k a0_0 a0_1 l0_2 a1 = some (r1, r2, r3, r4)) :
  Calls Try.prog 24 #[.agg #[.int .i64 a0_0, .int .i64 a0_1, .slice A0_2 l0_2.length c0_2], .int .i64 a1] w fun e w' => ∃ v2_ : Value, e = .returned (.tuple #[.agg #[.int .i64 r1, .int .i64 r2, v2_], .int .i64 r4]) ∧ Kd.R Kd.bool 4 w' w.heap.size (fun _ => True) v2_ r3 ∧ Below w.heap.size w w' := by
 have hu24 := Try.underlying24
 have HR0_2 := Aside0.mk hr0_2
 have HC0_2 := Aside0.mk hc0_2
 clear hr0_2 hc0_2
 have HB := Aside0.mk (Below.refl w.heap.size w)
 have H : ((raster_Check.f a0_0 a0_1 l0_2).bind fun t143 => (if t143 = 0 then ((raster_clone.f a0_0 a0_1 l0_2).bind fun bt144 => (raster_Turn.l0 k (Go.bits .and .i64 a1 3) 0 bt144.1 bt144.2.1 bt144.2.2)) else (some (0, 0, ([] : List Bool), t143)))) = some (r1, r2, r3, r4) := h
 clear h
 replace H := Option.bind_eq_some_iff.mp H
 obtain ⟨t143, A30, H⟩ := H
 replace H : (if t143 = 0 then ((raster_clone.f a0_0 a0_1 l0_2).bind fun bt144 => (raster_Turn.l0 k (Go.bits .and .i64 a1 3) 0 bt144.1 bt144.2.1 bt144.2.2)) else (some (0, 0, ([] : List Bool), t143))) = some (r1, r2, r3, r4) := H
 have A3 := Aside0.mk A30
 clear A30
 by_cases c4 : t143 = 0
 ·rw [if_pos c4] at H
  have c4b0 : (t143 == 0) = true := beq_iff_eq.mpr c4
  have c4b1 : (t143 != 0) = false := bne_eq_false_iff_eq.mpr c4
  clear c4
  replace H := Option.bind_eq_some_iff.mp H
  obtain ⟨⟨t144, t145, t146⟩, A50, H⟩ := H
  replace H : (raster_Turn.l0 k (Go.bits .and .i64 a1 3) 0 t144 t145 t146) = some (r1, r2, r3, r4) := H
  have A5 := Aside0.mk A50
  clear A50
  have H' := Aside0.mk H
  clear H
  go_enter Try.func24, Try.ntmps24
  go_wp2_with (first | ((with_reducible refine gate_dst (N := 2) rfl ?_); refine box_event ?hg (N := 2) ?hd (cs := #[.int .i64 a0_0, .int .i64 a0_1, .slice A0_2 l0_2.length c0_2]) (t := 24) ?hr ?_; (case hd => rfl); (case hg => rfl); (case hr => first | (go_simp; done) | (go_simp; rfl)); intro gb141 hg w6 hbox hb; have n0_ := Aside0.mk (below_step (hb0 HB) hb); have n1_ := Aside0.mk (hbox); have n2_ := Aside0.mk ((by rw [hg]; exact (below_size (hb0 HB)) : w.heap.size ≤ gb141)); have n3_ := Aside0.mk ((by rw [hg]; exact (below_size (hb0 HB)) : w.heap.size ≤ gb141)); clear HB; have HB := n0_; have BK141 := n1_; have GW141 := n2_; have GE141 := n3_; clear n0_ n1_ n2_ n3_; clear hb hbox hg) | ((with_reducible refine gate_dst (N := 4) rfl ?_); refine box_event ?hg (N := 4) ?hd (cs := #[.int .i64 0, .int .i64 0, .slice none 0 0]) (t := 24) ?hr ?_; (case hd => rfl); (case hg => rfl); (case hr => first | (go_simp; done) | (go_simp; rfl)); intro gb142 hg w7 hbox hb; have n0_ := Aside0.mk (blk_below (bkx BK141) hb); have n1_ := Aside0.mk (below_step (hb1 HB GE141) hb); have n2_ := Aside0.mk (hbox); have n3_ := Aside0.mk ((by rw [hg]; exact (below_size (hb1 HB GE141)) : w.heap.size ≤ gb142)); have n4_ := Aside0.mk ((by rw [hg]; exact (below_size (hb1 HB GE141)) : w.heap.size ≤ gb142)); have n5_ := Aside0.mk (nel hg BK141 : gb141 ≠ gb142); have n6_ := Aside0.mk (neg hg BK141 : gb142 ≠ gb141); clear BK141; clear HB; have BK141 := n0_; have HB := n1_; have BK142 := n2_; have GW142 := n3_; have GE142 := n4_; have NB141_142 := n5_; have NB142_141 := n6_; clear n0_ n1_ n2_ n3_ n4_ n5_ n6_; clear hb hbox hg; have hnb8 := NB141_142.out; have hnc8 := NB142_141.out; have hcz9_0 : w7.cell? ⟨gb141, 0, none⟩ = some (.int .i64 a0_0) := (blk_cell BK141.out 0).trans rfl; have hcz9_1 : w7.cell? ⟨gb141, 1, none⟩ = some (.int .i64 a0_1) := (blk_cell BK141.out 1).trans rfl; have hcz9_2 : w7.cell? ⟨gb141, 2, none⟩ = some (.slice A0_2 l0_2.length c0_2) := (blk_cell BK141.out 2).trans rfl; have hfz9_0 := blk_frozen BK141.out 0; have hfz9_1 := blk_frozen BK141.out 1; have hfz9_2 := blk_frozen BK141.out 2) | ((with_reducible refine gate_callee (f := 23) rfl ?_); refine goesL_ (some 9) rfl rfl Try.func23 (by kernel_rfl) rfl #[.agg #[.int .i64 a0_0, .int .i64 a0_1, .slice A0_2 l0_2.length c0_2]] rfl mapx ?_; (with_reducible refine (raster_Check.calls a0_0 a0_1 _ _ l0_2 t143 _ ?side1 ?side2 A3.out).mono ?_); (case side1 => repeat (first | exact (Kd.C_below HR0_2.out HB.out) | (with_reducible refine Kd.C_alloc ?_ _) | (with_reducible refine Kd.C_drewN ?_ _) | (with_reducible refine Kd.C_drew ?_))); (case side2 => exact HC0_2.out); rintro e w10 ⟨rfl, hb⟩; refine ⟨_, rfl, ?_⟩; have n0_ := Aside0.mk (blk_below (bkx BK141) hb); have n1_ := Aside0.mk (blk_below (bkx BK142) hb); have n2_ := Aside0.mk (below_step (hb2 HB GE141 GE142) hb); clear BK141; clear BK142; clear HB; have BK141 := n0_; have BK142 := n1_; have HB := n2_; clear n0_ n1_ n2_; (try clear hb); (try clear hb2); (try clear hk); (try clear hi); have hcz11_0 : w10.cell? ⟨gb141, 0, none⟩ = some (.int .i64 a0_0) := (blk_cell BK141.out 0).trans rfl; have hcz11_1 : w10.cell? ⟨gb141, 1, none⟩ = some (.int .i64 a0_1) := (blk_cell BK141.out 1).trans rfl; have hcz11_2 : w10.cell? ⟨gb141, 2, none⟩ = some (.slice A0_2 l0_2.length c0_2) := (blk_cell BK141.out 2).trans rfl; have hfz11_0 := blk_frozen BK141.out 0; have hfz11_1 := blk_frozen BK141.out 1; have hfz11_2 := blk_frozen BK141.out 2) | ((with_reducible refine gate_callee (f := 50) rfl ?_); refine goesL_ (some 15) rfl rfl Try.func50 (by kernel_rfl) rfl #[.agg #[.int .i64 a0_0, .int .i64 a0_1, .slice A0_2 l0_2.length c0_2]] rfl mapx ?_; (with_reducible refine (raster_clone.calls a0_0 a0_1 _ _ l0_2 t144 t145 t146 _ ?side1 ?side2 A5.out).mono ?_); (case side1 => repeat (first | exact (Kd.C_below HR0_2.out HB.out) | (with_reducible refine Kd.C_alloc ?_ _) | (with_reducible refine Kd.C_drewN ?_ _) | (with_reducible refine Kd.C_drew ?_))); (case side2 => exact HC0_2.out); rintro e w12 ⟨v147, rfl, ho0, hb⟩; refine ⟨_, rfl, ?_⟩; have n0_ := Aside0.mk (Kd.R_lower ho0 (below_size (hb2 HB GE141 GE142))); have n1_ := Aside0.mk (blk_below (bkx BK141) hb); have n2_ := Aside0.mk (blk_below (bkx BK142) hb); have n3_ := Aside0.mk (below_step (hb2 HB GE141 GE142) hb); clear BK141; clear BK142; clear HB; have HO148 := n0_; have BK141 := n1_; have BK142 := n2_; have HB := n3_; clear n0_ n1_ n2_ n3_; (try clear hb); (try clear hb2); (try clear hk); (try clear hi); (try clear ho0)) | ((with_reducible refine gate_dst (N := 7) rfl ?_); refine box_event ?hg (N := 7) ?hd (cs := #[.int .i64 0, .int .i64 0, .slice none 0 0]) (t := 24) ?hr ?_; (case hd => rfl); (case hg => rfl); (case hr => first | (go_simp; done) | (go_simp; rfl)); intro gb149 hg w13 hbox hb; have n0_ := Aside0.mk (Kd.R_below (rkx HO148) hb); have n1_ := Aside0.mk (blk_below (bkx BK141) hb); have n2_ := Aside0.mk (blk_below (bkx BK142) hb); have n3_ := Aside0.mk (below_step (hb2 HB GE141 GE142) hb); have n4_ := Aside0.mk (hbox); have n5_ := Aside0.mk ((by rw [hg]; exact (below_size (hb2 HB GE141 GE142)) : w.heap.size ≤ gb149)); have n6_ := Aside0.mk ((by rw [hg]; exact (below_size (hb2 HB GE141 GE142)) : w.heap.size ≤ gb149)); have n7_ := Aside0.mk (nel hg BK141 : gb141 ≠ gb149); have n8_ := Aside0.mk (neg hg BK141 : gb149 ≠ gb141); have n9_ := Aside0.mk (nel hg BK142 : gb142 ≠ gb149); have n10_ := Aside0.mk (neg hg BK142 : gb149 ≠ gb142); clear HO148; clear BK141; clear BK142; clear HB; have HO148 := n0_; have BK141 := n1_; have BK142 := n2_; have HB := n3_; have BK149 := n4_; have GW149 := n5_; have GE149 := n6_; have NB141_149 := n7_; have NB149_141 := n8_; have NB142_149 := n9_; have NB149_142 := n10_; clear n0_ n1_ n2_ n3_ n4_ n5_ n6_ n7_ n8_ n9_ n10_; clear hb hbox hg; have hnb14 := NB149_141.out; have hnc14 := NB141_149.out; have hnb15 := NB149_142.out; have hnc15 := NB142_149.out; have hcz16_0 : w13.cell? ⟨gb149, 0, none⟩ = some (.int .i64 0) := (blk_cell BK149.out 0).trans rfl; have hcz16_1 : w13.cell? ⟨gb149, 1, none⟩ = some (.int .i64 0) := (blk_cell BK149.out 1).trans rfl; have hcz16_2 : w13.cell? ⟨gb149, 2, none⟩ = some (.slice none 0 0) := (blk_cell BK149.out 2).trans rfl; have hfz16_0 := blk_frozen BK149.out 0; have hfz16_1 := blk_frozen BK149.out 1; have hfz16_2 := blk_frozen BK149.out 2; obtain ⟨Ao17, co17, eo17⟩ := Kd.R_slice HO148.out; subst eo17))
  go_loopg [18] k (fun kq v18 w' => ∃ (x18_1 : Int) (x150000_1 : Int) (x150001_1 : Int) (x150002_1 : List Bool) (u150002 : Value), v18 = .int .i64 x18_1 ∧ Aside0 (raster_Turn.l0 kq (Go.bits .and .i64 a1 3) x18_1 x150000_1 x150001_1 x150002_1 = some (r1, r2, r3, r4)) ∧ Aside0 (kq ≤ k) ∧ Aside0 (Kd.R Kd.bool 4 w' w.heap.size (fun _ => True) u150002 x150002_1) ∧ Aside0 (w'.heap[gb141]? = some (.cells #[.int .i64 a0_0, .int .i64 a0_1, (.slice A0_2 l0_2.length c0_2)] 24 (0, 0))) ∧ Aside0 (w'.heap[gb142]? = some (.cells #[.int .i64 0, .int .i64 0, (.slice none 0 0)] 24 (0, 0))) ∧ Aside0 (w'.heap[gb149]? = some (.cells #[.int .i64 x150000_1, .int .i64 x150001_1, u150002] 24 (0, 0))) ∧ Aside0 (Below w.heap.size w w'))
  case atStart => exact ⟨(0), (t144), (t145), (t146), (.slice Ao17 t146.length co17), (by first | rfl | (simp; done) | (simp [*]; done)), H', ⟨Nat.le_refl _⟩, ⟨by refine rkt ?_; exact Kd.R_mono (Kd.R_far (p := ⟨gb149, 2, none⟩) (Kd.R_far (p := ⟨gb149, 1, none⟩) (Kd.R_far (p := ⟨gb149, 0, none⟩) (Kd.R_types HO148.out BK149.out (by decide)) (fun _ hk => hk.2) (.int .i64 t144)) (fun _ hk => hk.2) (.int .i64 t145)) (fun _ hk => hk.2) (.slice Ao17 t146.length co17)) (fun _ hk => trivial)⟩, ⟨bky BK141 NB141_149⟩, ⟨bky BK142 NB142_149⟩, ⟨by refine bkt ?_; refine blk_put (cs := #[.int .i64 t144, .int .i64 t145, .slice none 0 0]) ?_ 2 _ rfl; refine bkt ?_; refine blk_put (cs := #[.int .i64 t144, .int .i64 0, .slice none 0 0]) ?_ 1 _ rfl; refine bkt ?_; refine blk_put (cs := #[.int .i64 0, .int .i64 0, .slice none 0 0]) ?_ 0 _ rfl; refine bkt ?_; exact BK149.out⟩, ⟨hb3 HB GE141 GE142 GE149⟩⟩
  case round =>
   clear H'
   try clear c1
   try clear c2
   try clear p2
   try clear c4
   try clear c4b0
   try clear c4b1
   try clear c5
   try clear c8
   try clear c14
   try clear c15
   try clear hcz11_0
   try clear hcz11_1
   try clear hcz11_2
   try clear hcz16_0
   try clear hcz16_1
   try clear hcz16_2
   try clear hcz9_0
   try clear hcz9_1
   try clear hcz9_2
   try clear hfz11_0
   try clear hfz11_1
   try clear hfz11_2
   try clear hfz16_0
   try clear hfz16_1
   try clear hfz16_2
   try clear hfz9_0
   try clear hfz9_1
   try clear hfz9_2
   obtain ⟨x18_1, x150000_1, x150001_1, x150002_1, u150002, rfl, HA, HK1, HO_150002, BK141, BK142, BK149, HB⟩ := hrel
   cases gk with
   | zero => exact absurd HA.out (by simp [raster_Turn.l0])
   | succ k1 =>
    have H := HA.out
    clear HA
    simp only [raster_Turn.l0] at H
    by_cases c18 : x18_1 < (Go.bits .and .i64 a1 3)
    ·rw [if_pos c18] at H
     have c18b0 : decide (x18_1 < (Go.bits .and .i64 a1 3)) = true := decide_eq_true c18
     clear c18
     replace H := Option.bind_eq_some_iff.mp H
     obtain ⟨t150, A190, H⟩ := H
     replace H : (raster_Turn.l0 k1 (Go.bits .and .i64 a1 3) (wrap64 (x18_1 + 1)) x150001_1 x150000_1 t150) = some (r1, r2, r3, r4) := H
     have A19 := Aside0.mk A190
     clear A190
     have H' := Aside0.mk H
     clear H
     try go_wp2
     have n0_ := Aside0.mk (Kd.R_drew HO_150002.out)
     have n1_ := Aside0.mk (blk_drew BK141.out)
     have n2_ := Aside0.mk (blk_drew BK142.out)
     have n3_ := Aside0.mk (blk_drew BK149.out)
     have n4_ := Aside0.mk (below_drew1 HB.out)
     clear HO_150002
     clear BK141
     clear BK142
     clear BK149
     clear HB
     have HO_150002 := n0_
     have BK141 := n1_
     have BK142 := n2_
     have BK149 := n3_
     have HB := n4_
     clear n0_ n1_ n2_ n3_ n4_
     obtain ⟨Ao21, co21, eo21⟩ := Kd.R_slice HO_150002.out
     (first | subst eo21 | (injection eo21 with f1_ f2_ f3_; have f4_ := f1_.symm; have f5_ := f3_.symm; clear f1_ f2_ f3_; subst f4_; subst f5_))
     refine start_ (n := 13) (S := fun w' => w'.cell? ⟨gb149, 0, none⟩ = some (.int .i64 x150000_1) ∧ w'.cell? ⟨gb149, 1, none⟩ = some (.int .i64 x150001_1) ∧ w'.cell? ⟨gb149, 2, none⟩ = some (.slice Ao21 x150002_1.length co21)) (ds := [12]) #[false, false, false, false, false, false, false, false, false, false, false, false, false] (by kernel_rfl) rfl rfl ⟨(blk_cell BK149.out 0).trans rfl, (blk_cell BK149.out 1).trans rfl, (blk_cell BK149.out 2).trans rfl⟩ (fun hHeld => ?_); refine with_tabW raster_Turn.tab7 raster_Turn.bits7 (fun HT_ HW_ => ?_)
     generalize wr.drew = w20 at HO_150002 BK141 BK142 BK149 HB hHeld ⊢
     refine pure_ (i := 0) (N := some 20) (v := ?_) (a' := ?_) #[true, false, false, false, false, false, false, false, false, false, false, false, false] rfl rfl (any_of HT_.out (by kernel_rfl)) (fun _ _ _ h => h) (Or.inl ⟨by rfl, ?_⟩) ?_ ?_
     rotate_left
     ·intro w'
      go_simp
      with_reducible rfl
     rotate_left
     ·simp only [Act.put, List.setIfInBounds_toArray, List.set_cons_zero, List.set_cons_succ, i64_w, i32_w]
      rfl
     refine pure_ (i := 2) (N := some 22) (v := ?_) (a' := ?_) #[true, false, true, false, false, false, false, false, false, false, false, false, false] rfl rfl (any_of HT_.out (by kernel_rfl)) (fun _ _ _ h => h) (Or.inl ⟨by rfl, ?_⟩) ?_ ?_
     rotate_left
     ·intro w'
      go_simp
      with_reducible rfl
     rotate_left
     ·simp only [Act.put, List.setIfInBounds_toArray, List.set_cons_zero, List.set_cons_succ, i64_w, i32_w]
      rfl
     refine pure_ (i := 4) (N := some 24) (v := ?_) (a' := ?_) #[true, false, true, false, true, false, false, false, false, false, false, false, false] rfl rfl (any_of HT_.out (by kernel_rfl)) (fun _ _ _ h => h) (Or.inl ⟨by rfl, ?_⟩) ?_ ?_
     rotate_left
     ·intro w'
      go_simp
      with_reducible rfl
     rotate_left
     ·simp only [Act.put, List.setIfInBounds_toArray, List.set_cons_zero, List.set_cons_succ, i64_w, i32_w]
      rfl
     refine pure_ (i := 6) (N := some 26) (v := ?_) (a' := ?_) #[true, false, true, false, true, false, true, false, false, false, false, false, false] rfl rfl (any_of HT_.out (by kernel_rfl)) (fun _ _ _ h => h) (Or.inl ⟨by rfl, ?_⟩) ?_ ?_
     rotate_left
     ·intro w'
      go_simp
      with_reducible rfl
     rotate_left
     ·simp only [Act.put, List.setIfInBounds_toArray, List.set_cons_zero, List.set_cons_succ, i64_w, i32_w]
      rfl
     refine pure_ (i := 8) (N := some 28) (v := ?_) (a' := ?_) #[true, false, true, false, true, false, true, false, true, false, false, false, false] rfl rfl (any_of HT_.out (by kernel_rfl)) (fun _ _ _ h => h) (Or.inl ⟨by rfl, ?_⟩) ?_ ?_
     rotate_left
     ·intro w'
      go_simp
      with_reducible rfl
     rotate_left
     ·simp only [Act.put, List.setIfInBounds_toArray, List.set_cons_zero, List.set_cons_succ, i64_w, i32_w]
      rfl
     refine take_ (i := 1) (N := some 21) (v := ?_) (a' := ?_) #[true, true, true, false, true, false, true, false, true, false, false, false, false] rfl rfl (take_ofW HT_.out HW_.out (by kernel_rfl)) (fun _ _ _ h => h) (Or.inl ⟨by rfl, ?_⟩) hHeld ?_ ?_
     rotate_left
     ·rintro w' ⟨s0, s1, s2⟩
      go_simp
      with_reducible rfl
     rotate_left
     ·simp only [Act.put, List.setIfInBounds_toArray, List.set_cons_zero, List.set_cons_succ, i64_w, i32_w]
      rfl
     refine take_ (i := 3) (N := some 23) (v := ?_) (a' := ?_) #[true, true, true, true, true, false, true, false, true, false, false, false, false] rfl rfl (take_ofW HT_.out HW_.out (by kernel_rfl)) (fun _ _ _ h => h) (Or.inl ⟨by rfl, ?_⟩) hHeld ?_ ?_
     rotate_left
     ·rintro w' ⟨s0, s1, s2⟩
      go_simp
      with_reducible rfl
     rotate_left
     ·simp only [Act.put, List.setIfInBounds_toArray, List.set_cons_zero, List.set_cons_succ, i64_w, i32_w]
      rfl
     refine take_ (i := 5) (N := some 25) (v := ?_) (a' := ?_) #[true, true, true, true, true, true, true, false, true, false, false, false, false] rfl rfl (take_ofW HT_.out HW_.out (by kernel_rfl)) (fun _ _ _ h => h) (Or.inl ⟨by rfl, ?_⟩) hHeld ?_ ?_
     rotate_left
     ·rintro w' ⟨s0, s1, s2⟩
      go_simp
      with_reducible rfl
     rotate_left
     ·simp only [Act.put, List.setIfInBounds_toArray, List.set_cons_zero, List.set_cons_succ, i64_w, i32_w]
      rfl
     refine take_ (i := 7) (N := some 27) (v := ?_) (a' := ?_) #[true, true, true, true, true, true, true, true, true, false, false, false, false] rfl rfl (take_ofW HT_.out HW_.out (by kernel_rfl)) (fun _ _ _ h => h) (Or.inl ⟨by rfl, ?_⟩) hHeld ?_ ?_
     rotate_left
     ·rintro w' ⟨s0, s1, s2⟩
      go_simp
      with_reducible rfl
     rotate_left
     ·simp only [Act.put, List.setIfInBounds_toArray, List.set_cons_zero, List.set_cons_succ, i64_w, i32_w]
      rfl
     refine take_ (i := 9) (N := some 29) (v := ?_) (a' := ?_) #[true, true, true, true, true, true, true, true, true, true, false, false, false] rfl rfl (take_ofW HT_.out HW_.out (by kernel_rfl)) (fun _ _ _ h => h) (Or.inl ⟨by rfl, ?_⟩) hHeld ?_ ?_
     rotate_left
     ·rintro w' ⟨s0, s1, s2⟩
      go_simp
      with_reducible rfl
     rotate_left
     ·simp only [Act.put, List.setIfInBounds_toArray, List.set_cons_zero, List.set_cons_succ, i64_w, i32_w]
      rfl
     refine one_ (i := 10) (N := some 30) #[true, true, true, true, true, true, true, true, true, true, true, false, false] rfl rfl (one_of HT_.out (by kernel_rfl)) (by decide) (fun K hK => ?_)
     refine goes_ Try.func52 (by kernel_rfl) rfl #[.slice Ao21 x150002_1.length co21, .int .i64 x150000_1, .int .i64 x150001_1] (by rfl) rfl rfl mapx ?_
     with_reducible refine (raster_turned_bool.calls k1 _ _ x150002_1 x150000_1 x150001_1 t150 _ ?side1 ?side2 A19.out).mono ?_
     (case side1 => repeat (first | exact (Kd.R_reads' HO_150002.out).2.2 | (with_reducible refine Kd.C_alloc ?_ _) | (with_reducible refine Kd.C_drewN ?_ _) | (with_reducible refine Kd.C_drew ?_)))
     (case side2 => exact (Kd.R_reads' HO_150002.out).2.1)
     rintro e w22 ⟨v151, rfl, ho0, hb⟩
     refine ⟨_, rfl, ?_⟩
     have n0_ := Aside0.mk (Kd.R_elder' (rkx HO_150002) (Kd.R_base ho0) hb)
     have n1_ := Aside0.mk (Kd.R_lower (Kd.R_new' ho0 (Kd.R_lt (rkx HO_150002))) (below_size (hb3 HB GE141 GE142 GE149)))
     have n2_ := Aside0.mk (blk_below (bkx BK141) hb)
     have n3_ := Aside0.mk (blk_below (bkx BK142) hb)
     have n4_ := Aside0.mk (blk_below (bkx BK149) hb)
     have n5_ := Aside0.mk (below_step (hb3 HB GE141 GE142 GE149) hb)
     clear HO_150002
     clear BK141
     clear BK142
     clear BK149
     clear HB
     have HO_150002 := n0_
     have HO152 := n1_
     have BK141 := n2_
     have BK142 := n3_
     have BK149 := n4_
     have HB := n5_
     clear n0_ n1_ n2_ n3_ n4_ n5_
     (try clear hb)
     (try clear hb2)
     (try clear hk)
     (try clear hi)
     (try clear ho0)
     obtain ⟨Ao23, co23, eo23⟩ := Kd.R_slice HO152.out
     (first | subst eo23 | (injection eo23 with f1_ f2_ f3_; have f4_ := f1_.symm; have f5_ := f3_.symm; clear f1_ f2_ f3_; subst f4_; subst f5_))
     refine hK.out _ _ ⟨(blk_cell BK149.out 0).trans rfl, (blk_cell BK149.out 1).trans rfl, (blk_cell BK149.out 2).trans rfl⟩ (fun hHeld => ?_)
     clear hK K
     refine norm_ (a' := ?_) ?_ ?_
     rotate_left
     ·show Act.put _ (some 30) _ = _
      simp only [Act.put, List.setIfInBounds_toArray, List.set_cons_zero, List.set_cons_succ, i64_w, i32_w]
      rfl
     refine pure_ (i := 11) (N := some 31) (v := ?_) (a' := ?_) #[true, true, true, true, true, true, true, true, true, true, true, true, false] rfl rfl (any_of HT_.out (by kernel_rfl)) (fun _ _ _ h => h) (Or.inl ⟨by rfl, ?_⟩) ?_ ?_
     rotate_left
     ·intro w'
      go_simp
      with_reducible rfl
     rotate_left
     ·simp only [Act.put, List.setIfInBounds_toArray, List.set_cons_zero, List.set_cons_succ, i64_w, i32_w]
      rfl
     refine last_ (i := 12) (N := none) #[true, true, true, true, true, true, true, true, true, true, true, true, true] rfl rfl (one_of HT_.out (by kernel_rfl)) (by decide) (fun K hK => ?_)
     have hs24 : w22.cell? ⟨gb149, 0, none⟩ = some (.int .i64 x150000_1) := (blk_cell BK149.out 0).trans rfl
     have hfs24 := blk_frozen BK149.out 0
     have hns24_0 := NB141_149.out
     have hns24_1 := NB142_149.out
     have hms24_0 := NB149_141.out
     have hms24_1 := NB149_142.out
     have hs25 : w22.cell? ⟨gb149, 1, none⟩ = some (.int .i64 x150001_1) := (blk_cell BK149.out 1).trans rfl
     have hfs25 := blk_frozen BK149.out 1
     have hns25_0 := NB141_149.out
     have hns25_1 := NB142_149.out
     have hms25_0 := NB149_141.out
     have hms25_1 := NB149_142.out
     have hs26 : w22.cell? ⟨gb149, 2, none⟩ = some (.slice Ao21 x150002_1.length co21) := (blk_cell BK149.out 2).trans rfl
     have hfs26 := blk_frozen BK149.out 2
     have hns26_0 := NB141_149.out
     have hns26_1 := NB142_149.out
     have hms26_0 := NB149_141.out
     have hms26_1 := NB149_142.out
     refine skip_ (w1 := ?_) (by rfl) rfl ?_ ?_
     rotate_left
     ·go_simp
      rfl
     refine hK.out _ _ ?_
     clear hK K
     refine done_ (done_of HT_.out (by kernel_rfl)) ?_
     try go_wp2
     go_roundg k1
     case measure => have := HK1.out; omega
     case rel => exact ⟨(wrap64 (x18_1 + 1)), (x150001_1), (x150000_1), (t150), (.slice Ao23 t150.length co23), (by first | rfl | (simp; done) | (simp [*]; done)), H', ⟨by have := HK1.out; omega⟩, ⟨by refine rkt ?_; exact Kd.R_mono (Kd.R_far (p := ⟨gb149, 2, none⟩) (Kd.R_far (p := ⟨gb149, 1, none⟩) (Kd.R_far (p := ⟨gb149, 0, none⟩) (Kd.R_types HO152.out BK149.out (by decide)) (fun _ hk => hk.2) (.int .i64 x150001_1)) (fun _ hk => hk.2) (.int .i64 x150000_1)) (fun _ hk => hk.2) (.slice Ao23 t150.length co23)) (fun _ hk => trivial)⟩, ⟨bky BK141 NB141_149⟩, ⟨bky BK142 NB142_149⟩, ⟨by refine bkt ?_; refine blk_put (cs := #[.int .i64 x150001_1, .int .i64 x150000_1, .slice Ao21 x150002_1.length co21]) ?_ 2 _ rfl; refine bkt ?_; refine blk_put (cs := #[.int .i64 x150001_1, .int .i64 x150001_1, .slice Ao21 x150002_1.length co21]) ?_ 1 _ rfl; refine bkt ?_; refine blk_put (cs := #[.int .i64 x150000_1, .int .i64 x150001_1, .slice Ao21 x150002_1.length co21]) ?_ 0 _ rfl; refine bkt ?_; exact BK149.out⟩, ⟨hb3 HB GE141 GE142 GE149⟩⟩
    ·rw [if_neg c18] at H
     have c18b0 : decide (x18_1 < (Go.bits .and .i64 a1 3)) = false := decide_eq_false c18
     clear c18
     simp only [Option.some.injEq, Prod.mk.injEq] at H
     obtain ⟨rfl, rfl, rfl, rfl⟩ := H
     have hnb27 := NB149_141.out
     have hnc27 := NB141_149.out
     have hnb28 := NB149_142.out
     have hnc28 := NB142_149.out
     have hcz29_0 : wr.cell? ⟨gb149, 0, none⟩ = some (.int .i64 x150000_1) := (blk_cell BK149.out 0).trans rfl
     have hcz29_1 : wr.cell? ⟨gb149, 1, none⟩ = some (.int .i64 x150001_1) := (blk_cell BK149.out 1).trans rfl
     have hcz29_2 : wr.cell? ⟨gb149, 2, none⟩ = some (u150002) := (blk_cell BK149.out 2).trans rfl
     have hfz29_0 := blk_frozen BK149.out 0
     have hfz29_1 := blk_frozen BK149.out 1
     have hfz29_2 := blk_frozen BK149.out 2
     have hnb30 := NB142_141.out
     have hnc30 := NB141_142.out
     have hcz31_0 : wr.cell? ⟨gb142, 0, none⟩ = some (.int .i64 0) := (blk_cell BK142.out 0).trans rfl
     have hcz31_1 : wr.cell? ⟨gb142, 1, none⟩ = some (.int .i64 0) := (blk_cell BK142.out 1).trans rfl
     have hcz31_2 : wr.cell? ⟨gb142, 2, none⟩ = some (.slice none 0 0) := (blk_cell BK142.out 2).trans rfl
     have hfz31_0 := blk_frozen BK142.out 0
     have hfz31_1 := blk_frozen BK142.out 1
     have hfz31_2 := blk_frozen BK142.out 2
     obtain ⟨Ao32, co32, eo32⟩ := Kd.R_slice HO_150002.out
     subst eo32
     go_wp2
     refine bodyPost_ret (results_ct rfl _ _ gb142 24 #[.int .i64 x150000_1, .int .i64 x150001_1, .slice Ao32 x150002_1.length co32] (0, 0) _ rfl (by refine bkt ?_; refine blk_put (cs := #[.int .i64 x150000_1, .int .i64 x150001_1, .slice none 0 0]) ?_ 2 _ rfl; refine bkt ?_; refine blk_put (cs := #[.int .i64 x150000_1, .int .i64 0, .slice none 0 0]) ?_ 1 _ rfl; refine bkt ?_; refine blk_put (cs := #[.int .i64 0, .int .i64 0, .slice none 0 0]) ?_ 0 _ rfl; refine bkt ?_; exact BK142.out) Try.underlying24 rfl (by kernel_rfl)) rfl ?_
     exact ⟨_, by first | rfl | (simp [errW_none, errW_some] <;> rfl) | (simp [*, errW_none, errW_some] <;> rfl), by refine rkt ?_; exact Kd.R_mono (Kd.R_far (p := ⟨gb142, 2, none⟩) (Kd.R_far (p := ⟨gb142, 1, none⟩) (Kd.R_far (p := ⟨gb142, 0, none⟩) (Kd.R_types HO_150002.out BK142.out (by decide)) (fun _ hk => hk.2) (.int .i64 x150000_1)) (fun _ hk => hk.2) (.int .i64 x150001_1)) (fun _ hk => hk.2) (.slice Ao32 x150002_1.length co32)) (fun _ hk => trivial), by repeat (first | (with_reducible first | exact HB.out | apply below_alloc | apply pw_below_drewN | apply below_drew1 | refine below_set ?_ GE141.out | refine below_set ?_ GE142.out | refine below_set ?_ GE149.out) | exact HB.out)⟩
 ·rw [if_neg c4] at H
  have c4b0 : (t143 == 0) = false := beq_eq_false_iff_ne.mpr c4
  have c4b1 : (t143 != 0) = true := bne_iff_ne.mpr c4
  simp only [Option.some.injEq, Prod.mk.injEq] at H
  obtain ⟨rfl, rfl, rfl, rfl⟩ := H
  go_enter Try.func24, Try.ntmps24
  go_wp2_with (first | ((with_reducible refine gate_dst (N := 2) rfl ?_); refine box_event ?hg (N := 2) ?hd (cs := #[.int .i64 a0_0, .int .i64 a0_1, .slice A0_2 l0_2.length c0_2]) (t := 24) ?hr ?_; (case hd => rfl); (case hg => rfl); (case hr => first | (go_simp; done) | (go_simp; rfl)); intro gb141 hg w33 hbox hb; have n0_ := Aside0.mk (below_step (hb0 HB) hb); have n1_ := Aside0.mk (hbox); have n2_ := Aside0.mk ((by rw [hg]; exact (below_size (hb0 HB)) : w.heap.size ≤ gb141)); have n3_ := Aside0.mk ((by rw [hg]; exact (below_size (hb0 HB)) : w.heap.size ≤ gb141)); clear HB; have HB := n0_; have BK141 := n1_; have GW141 := n2_; have GE141 := n3_; clear n0_ n1_ n2_ n3_; clear hb hbox hg) | ((with_reducible refine gate_dst (N := 4) rfl ?_); refine box_event ?hg (N := 4) ?hd (cs := #[.int .i64 0, .int .i64 0, .slice none 0 0]) (t := 24) ?hr ?_; (case hd => rfl); (case hg => rfl); (case hr => first | (go_simp; done) | (go_simp; rfl)); intro gb142 hg w34 hbox hb; have n0_ := Aside0.mk (blk_below (bkx BK141) hb); have n1_ := Aside0.mk (below_step (hb1 HB GE141) hb); have n2_ := Aside0.mk (hbox); have n3_ := Aside0.mk ((by rw [hg]; exact (below_size (hb1 HB GE141)) : w.heap.size ≤ gb142)); have n4_ := Aside0.mk ((by rw [hg]; exact (below_size (hb1 HB GE141)) : w.heap.size ≤ gb142)); have n5_ := Aside0.mk (nel hg BK141 : gb141 ≠ gb142); have n6_ := Aside0.mk (neg hg BK141 : gb142 ≠ gb141); clear BK141; clear HB; have BK141 := n0_; have HB := n1_; have BK142 := n2_; have GW142 := n3_; have GE142 := n4_; have NB141_142 := n5_; have NB142_141 := n6_; clear n0_ n1_ n2_ n3_ n4_ n5_ n6_; clear hb hbox hg; have hnb35 := NB141_142.out; have hnc35 := NB142_141.out; have hcz36_0 : w34.cell? ⟨gb141, 0, none⟩ = some (.int .i64 a0_0) := (blk_cell BK141.out 0).trans rfl; have hcz36_1 : w34.cell? ⟨gb141, 1, none⟩ = some (.int .i64 a0_1) := (blk_cell BK141.out 1).trans rfl; have hcz36_2 : w34.cell? ⟨gb141, 2, none⟩ = some (.slice A0_2 l0_2.length c0_2) := (blk_cell BK141.out 2).trans rfl; have hfz36_0 := blk_frozen BK141.out 0; have hfz36_1 := blk_frozen BK141.out 1; have hfz36_2 := blk_frozen BK141.out 2) | ((with_reducible refine gate_callee (f := 23) rfl ?_); refine goesL_ (some 9) rfl rfl Try.func23 (by kernel_rfl) rfl #[.agg #[.int .i64 a0_0, .int .i64 a0_1, .slice A0_2 l0_2.length c0_2]] rfl mapx ?_; (with_reducible refine (raster_Check.calls a0_0 a0_1 _ _ l0_2 t143 _ ?side1 ?side2 A3.out).mono ?_); (case side1 => repeat (first | exact (Kd.C_below HR0_2.out HB.out) | (with_reducible refine Kd.C_alloc ?_ _) | (with_reducible refine Kd.C_drewN ?_ _) | (with_reducible refine Kd.C_drew ?_))); (case side2 => exact HC0_2.out); rintro e w37 ⟨rfl, hb⟩; refine ⟨_, rfl, ?_⟩; have n0_ := Aside0.mk (blk_below (bkx BK141) hb); have n1_ := Aside0.mk (blk_below (bkx BK142) hb); have n2_ := Aside0.mk (below_step (hb2 HB GE141 GE142) hb); clear BK141; clear BK142; clear HB; have BK141 := n0_; have BK142 := n1_; have HB := n2_; clear n0_ n1_ n2_; (try clear hb); (try clear hb2); (try clear hk); (try clear hi); have hcz38_0 : w37.cell? ⟨gb142, 0, none⟩ = some (.int .i64 0) := (blk_cell BK142.out 0).trans rfl; have hcz38_1 : w37.cell? ⟨gb142, 1, none⟩ = some (.int .i64 0) := (blk_cell BK142.out 1).trans rfl; have hcz38_2 : w37.cell? ⟨gb142, 2, none⟩ = some (.slice none 0 0) := (blk_cell BK142.out 2).trans rfl; have hfz38_0 := blk_frozen BK142.out 0; have hfz38_1 := blk_frozen BK142.out 1; have hfz38_2 := blk_frozen BK142.out 2))
  refine bodyPost_ret (results_ct rfl _ _ gb142 24 #[.int .i64 0, .int .i64 0, .slice none 0 0] (0, 0) _ rfl (by refine bkt ?_; refine blk_put (cs := #[.int .i64 0, .int .i64 0, .slice none 0 0]) ?_ 2 _ rfl; refine bkt ?_; refine blk_put (cs := #[.int .i64 0, .int .i64 0, .slice none 0 0]) ?_ 1 _ rfl; refine bkt ?_; refine blk_put (cs := #[.int .i64 0, .int .i64 0, .slice none 0 0]) ?_ 0 _ rfl; refine bkt ?_; exact BK142.out) Try.underlying24 rfl (by kernel_rfl)) rfl ?_
  exact ⟨_, by first | rfl | (simp [errW_none, errW_some] <;> rfl) | (simp [*, errW_none, errW_some] <;> rfl), by first | exact Kd.R_nil _ _ _ _ _ | exact Kd.N_nil _ _ _ _ _ | exact Kd.V_nil _ _ _ _ _ | exact Kd.Q_nil _ _ _ _ _ | exact Kd.S_nil _ _ _ _ _, by repeat (first | (with_reducible first | exact HB.out | apply below_alloc | apply pw_below_drewN | apply below_drew1 | refine below_set ?_ GE141.out | refine below_set ?_ GE142.out) | exact HB.out)⟩

/-! ### raster_at: function 55 -/
def raster_at.f (a0_0 : Int) (a0_1 : Int) (l0_2 : List Bool) (a1 : Int) (a2 : Int) : Option (Bool) := if a1 ≥ 0 then (if a1 < a0_0 then (if a2 ≥ 0 then (if a2 < a0_1 then (if 0 ≤ (wrap64 ((wrap64 (a2 * a0_0)) + a1)) then (if (wrap64 ((wrap64 (a2 * a0_0)) + a1)) < (l0_2.length : Int) then (some (rdOf false l0_2 (wrap64 ((wrap64 (a2 * a0_0)) + a1)))) else (none)) else (none)) else (some false)) else (some false)) else (some false)) else (some false)
set_option maxHeartbeats 8000000 in
set_option maxRecDepth 100000 in
theorem raster_at.calls (a0_0 : Int) (a0_1 : Int) (A0_2 : Option Addr) (c0_2 : Nat) (l0_2 : List Bool) (a1 : Int) (a2 : Int) (r : Bool) (w : World) (hr0_2 : Kd.C Kd.bool w A0_2 l0_2.length l0_2) (hc0_2 : l0_2.length ≤ c0_2) (h : raster_at.f a0_0 a0_1 l0_2 a1 a2 = some r) :
  Calls Try.prog 55 #[.agg #[.int .i64 a0_0, .int .i64 a0_1, .slice A0_2 l0_2.length c0_2], .int .i64 a1, .int .i64 a2] w fun e w' => e = .returned (.bool r) ∧ Below w.heap.size w w' := by
 have hu24 := Try.underlying24
 have HR0_2 := Aside0.mk hr0_2
 have HC0_2 := Aside0.mk hc0_2
 clear hr0_2 hc0_2
 have HB := Aside0.mk (Below.refl w.heap.size w)
 have H : (if a1 ≥ 0 then (if a1 < a0_0 then (if a2 ≥ 0 then (if a2 < a0_1 then (if 0 ≤ (wrap64 ((wrap64 (a2 * a0_0)) + a1)) then (if (wrap64 ((wrap64 (a2 * a0_0)) + a1)) < (l0_2.length : Int) then (some (rdOf false l0_2 (wrap64 ((wrap64 (a2 * a0_0)) + a1)))) else (none)) else (none)) else (some false)) else (some false)) else (some false)) else (some false)) = some r := h
 clear h
 by_cases c4 : a1 ≥ 0
 ·rw [if_pos c4] at H
  have c4b0 : decide (0 ≤ a1) = true := decide_eq_true c4
  clear c4
  by_cases c5 : a1 < a0_0
  ·rw [if_pos c5] at H
   have c5b0 : decide (a1 < a0_0) = true := decide_eq_true c5
   clear c5
   by_cases c6 : a2 ≥ 0
   ·rw [if_pos c6] at H
    have c6b0 : decide (0 ≤ a2) = true := decide_eq_true c6
    clear c6
    by_cases c7 : a2 < a0_1
    ·rw [if_pos c7] at H
     have c7b0 : decide (a2 < a0_1) = true := decide_eq_true c7
     clear c7
     obtain ⟨ji8, hji8⟩ : ∃ j_ : Int, (wrap64 ((wrap64 (a2 * a0_0)) + a1)) = j_ := ⟨_, rfl⟩
     replace H : (if 0 ≤ (ji8) then (if (ji8) < (l0_2.length : Int) then (some (rdOf false l0_2 (ji8))) else (none)) else (none)) = some r := by first | (rw [hji8] at H; exact H) | (simp only [hji8] at H ⊢; exact H)
     have hji8w : (IntKind.i64.wrap ((wrap64 (a2 * a0_0)) + a1)) = ji8 := (i64_w _).trans hji8
     by_cases c9 : 0 ≤ (ji8)
     ·rw [if_pos c9] at H
      have c9b0 : decide (0 ≤ (ji8)) = true := decide_eq_true c9
      clear c9
      by_cases c10 : (ji8) < (l0_2.length : Int)
      ·rw [if_pos c10] at H
       have c10b0 : decide ((ji8) < (l0_2.length : Int)) = true := decide_eq_true c10
       clear c10
       obtain rfl := Option.some.inj H
       go_enter Try.func55, Try.ntmps55
       go_wp2_with (first | ((with_reducible refine gate_dst (N := 3) rfl ?_); refine box_event ?hg (N := 3) ?hd (cs := #[.int .i64 a0_0, .int .i64 a0_1, .slice A0_2 l0_2.length c0_2]) (t := 24) ?hr ?_; (case hd => rfl); (case hg => rfl); (case hr => first | (go_simp; done) | (go_simp; rfl)); intro gb153 hg w11 hbox hb; have n0_ := Aside0.mk (below_step (hb0 HB) hb); have n1_ := Aside0.mk (hbox); have n2_ := Aside0.mk ((by rw [hg]; exact (below_size (hb0 HB)) : w.heap.size ≤ gb153)); have n3_ := Aside0.mk ((by rw [hg]; exact (below_size (hb0 HB)) : w.heap.size ≤ gb153)); clear HB; have HB := n0_; have BK153 := n1_; have GW153 := n2_; have GE153 := n3_; clear n0_ n1_ n2_ n3_; clear hb hbox hg; have hcz12_0 : w11.cell? ⟨gb153, 0, none⟩ = some (.int .i64 a0_0) := (blk_cell BK153.out 0).trans rfl; have hcz12_1 : w11.cell? ⟨gb153, 1, none⟩ = some (.int .i64 a0_1) := (blk_cell BK153.out 1).trans rfl; have hcz12_2 : w11.cell? ⟨gb153, 2, none⟩ = some (.slice A0_2 l0_2.length c0_2) := (blk_cell BK153.out 2).trans rfl; have hfz12_0 := blk_frozen BK153.out 0; have hfz12_1 := blk_frozen BK153.out 1; have hfz12_2 := blk_frozen BK153.out 2; have p154 : 0 ≤ ((ji8) : Int) := of_decide_eq_true (by first | (with_reducible assumption) | assumption); have q154 : (ji8) < (l0_2.length : Int) := of_decide_eq_true (by first | (with_reducible assumption) | assumption); obtain ⟨ad154, e154, hx154_0⟩ := Kd.at_bool HR0_2.out (ji8) p154 q154; cases e154; replace hx154_0 := (HB.out.cell (World.block_lt_of_cell? w _ hx154_0)).trans hx154_0; replace p154 := eq_true p154; replace q154 := eq_true q154))
       go_ret
       exact ⟨by first | rfl | (simp [errW_none, errW_some] <;> rfl) | (simp only [← hji8]; first | rfl | (simp [errW_none, errW_some] <;> rfl)) | (simp [*, errW_none, errW_some] <;> rfl), by repeat (first | (with_reducible first | exact HB.out | apply below_alloc | apply pw_below_drewN | apply below_drew1 | refine below_set ?_ GE153.out) | exact HB.out)⟩
      ·rw [if_neg c10] at H
       exact absurd H (by simp)
     ·rw [if_neg c9] at H
      exact absurd H (by simp)
    ·rw [if_neg c7] at H
     have c7b0 : decide (a2 < a0_1) = false := decide_eq_false c7
     clear c7
     obtain rfl := Option.some.inj H
     go_enter Try.func55, Try.ntmps55
     go_wp2_with (first | ((with_reducible refine gate_dst (N := 3) rfl ?_); refine box_event ?hg (N := 3) ?hd (cs := #[.int .i64 a0_0, .int .i64 a0_1, .slice A0_2 l0_2.length c0_2]) (t := 24) ?hr ?_; (case hd => rfl); (case hg => rfl); (case hr => first | (go_simp; done) | (go_simp; rfl)); intro gb153 hg w13 hbox hb; have n0_ := Aside0.mk (below_step (hb0 HB) hb); have n1_ := Aside0.mk (hbox); have n2_ := Aside0.mk ((by rw [hg]; exact (below_size (hb0 HB)) : w.heap.size ≤ gb153)); have n3_ := Aside0.mk ((by rw [hg]; exact (below_size (hb0 HB)) : w.heap.size ≤ gb153)); clear HB; have HB := n0_; have BK153 := n1_; have GW153 := n2_; have GE153 := n3_; clear n0_ n1_ n2_ n3_; clear hb hbox hg; have hcz14_0 : w13.cell? ⟨gb153, 0, none⟩ = some (.int .i64 a0_0) := (blk_cell BK153.out 0).trans rfl; have hcz14_1 : w13.cell? ⟨gb153, 1, none⟩ = some (.int .i64 a0_1) := (blk_cell BK153.out 1).trans rfl; have hcz14_2 : w13.cell? ⟨gb153, 2, none⟩ = some (.slice A0_2 l0_2.length c0_2) := (blk_cell BK153.out 2).trans rfl; have hfz14_0 := blk_frozen BK153.out 0; have hfz14_1 := blk_frozen BK153.out 1; have hfz14_2 := blk_frozen BK153.out 2))
     go_ret
     exact ⟨by first | rfl | (simp [errW_none, errW_some] <;> rfl) | (simp [*, errW_none, errW_some] <;> rfl), by repeat (first | (with_reducible first | exact HB.out | apply below_alloc | apply pw_below_drewN | apply below_drew1 | refine below_set ?_ GE153.out) | exact HB.out)⟩
   ·rw [if_neg c6] at H
    have c6b0 : decide (0 ≤ a2) = false := decide_eq_false c6
    clear c6
    obtain rfl := Option.some.inj H
    go_enter Try.func55, Try.ntmps55
    go_wp2_with (first | ((with_reducible refine gate_dst (N := 3) rfl ?_); refine box_event ?hg (N := 3) ?hd (cs := #[.int .i64 a0_0, .int .i64 a0_1, .slice A0_2 l0_2.length c0_2]) (t := 24) ?hr ?_; (case hd => rfl); (case hg => rfl); (case hr => first | (go_simp; done) | (go_simp; rfl)); intro gb153 hg w15 hbox hb; have n0_ := Aside0.mk (below_step (hb0 HB) hb); have n1_ := Aside0.mk (hbox); have n2_ := Aside0.mk ((by rw [hg]; exact (below_size (hb0 HB)) : w.heap.size ≤ gb153)); have n3_ := Aside0.mk ((by rw [hg]; exact (below_size (hb0 HB)) : w.heap.size ≤ gb153)); clear HB; have HB := n0_; have BK153 := n1_; have GW153 := n2_; have GE153 := n3_; clear n0_ n1_ n2_ n3_; clear hb hbox hg; have hcz16_0 : w15.cell? ⟨gb153, 0, none⟩ = some (.int .i64 a0_0) := (blk_cell BK153.out 0).trans rfl; have hcz16_1 : w15.cell? ⟨gb153, 1, none⟩ = some (.int .i64 a0_1) := (blk_cell BK153.out 1).trans rfl; have hcz16_2 : w15.cell? ⟨gb153, 2, none⟩ = some (.slice A0_2 l0_2.length c0_2) := (blk_cell BK153.out 2).trans rfl; have hfz16_0 := blk_frozen BK153.out 0; have hfz16_1 := blk_frozen BK153.out 1; have hfz16_2 := blk_frozen BK153.out 2))
    go_ret
    exact ⟨by first | rfl | (simp [errW_none, errW_some] <;> rfl) | (simp [*, errW_none, errW_some] <;> rfl), by repeat (first | (with_reducible first | exact HB.out | apply below_alloc | apply pw_below_drewN | apply below_drew1 | refine below_set ?_ GE153.out) | exact HB.out)⟩
  ·rw [if_neg c5] at H
   have c5b0 : decide (a1 < a0_0) = false := decide_eq_false c5
   clear c5
   obtain rfl := Option.some.inj H
   go_enter Try.func55, Try.ntmps55
   go_wp2_with (first | ((with_reducible refine gate_dst (N := 3) rfl ?_); refine box_event ?hg (N := 3) ?hd (cs := #[.int .i64 a0_0, .int .i64 a0_1, .slice A0_2 l0_2.length c0_2]) (t := 24) ?hr ?_; (case hd => rfl); (case hg => rfl); (case hr => first | (go_simp; done) | (go_simp; rfl)); intro gb153 hg w17 hbox hb; have n0_ := Aside0.mk (below_step (hb0 HB) hb); have n1_ := Aside0.mk (hbox); have n2_ := Aside0.mk ((by rw [hg]; exact (below_size (hb0 HB)) : w.heap.size ≤ gb153)); have n3_ := Aside0.mk ((by rw [hg]; exact (below_size (hb0 HB)) : w.heap.size ≤ gb153)); clear HB; have HB := n0_; have BK153 := n1_; have GW153 := n2_; have GE153 := n3_; clear n0_ n1_ n2_ n3_; clear hb hbox hg; have hcz18_0 : w17.cell? ⟨gb153, 0, none⟩ = some (.int .i64 a0_0) := (blk_cell BK153.out 0).trans rfl; have hcz18_1 : w17.cell? ⟨gb153, 1, none⟩ = some (.int .i64 a0_1) := (blk_cell BK153.out 1).trans rfl; have hcz18_2 : w17.cell? ⟨gb153, 2, none⟩ = some (.slice A0_2 l0_2.length c0_2) := (blk_cell BK153.out 2).trans rfl; have hfz18_0 := blk_frozen BK153.out 0; have hfz18_1 := blk_frozen BK153.out 1; have hfz18_2 := blk_frozen BK153.out 2))
   go_ret
   exact ⟨by first | rfl | (simp [errW_none, errW_some] <;> rfl) | (simp [*, errW_none, errW_some] <;> rfl), by repeat (first | (with_reducible first | exact HB.out | apply below_alloc | apply pw_below_drewN | apply below_drew1 | refine below_set ?_ GE153.out) | exact HB.out)⟩
 ·rw [if_neg c4] at H
  have c4b0 : decide (0 ≤ a1) = false := decide_eq_false c4
  clear c4
  obtain rfl := Option.some.inj H
  go_enter Try.func55, Try.ntmps55
  go_wp2_with (first | ((with_reducible refine gate_dst (N := 3) rfl ?_); refine box_event ?hg (N := 3) ?hd (cs := #[.int .i64 a0_0, .int .i64 a0_1, .slice A0_2 l0_2.length c0_2]) (t := 24) ?hr ?_; (case hd => rfl); (case hg => rfl); (case hr => first | (go_simp; done) | (go_simp; rfl)); intro gb153 hg w19 hbox hb; have n0_ := Aside0.mk (below_step (hb0 HB) hb); have n1_ := Aside0.mk (hbox); have n2_ := Aside0.mk ((by rw [hg]; exact (below_size (hb0 HB)) : w.heap.size ≤ gb153)); have n3_ := Aside0.mk ((by rw [hg]; exact (below_size (hb0 HB)) : w.heap.size ≤ gb153)); clear HB; have HB := n0_; have BK153 := n1_; have GW153 := n2_; have GE153 := n3_; clear n0_ n1_ n2_ n3_; clear hb hbox hg))
  go_ret
  exact ⟨by first | rfl | (simp [errW_none, errW_some] <;> rfl) | (simp [*, errW_none, errW_some] <;> rfl), by repeat (first | (with_reducible first | exact HB.out | apply below_alloc | apply pw_below_drewN | apply below_drew1 | refine below_set ?_ GE153.out) | exact HB.out)⟩

/-! ### raster_At: function 34 -/
def raster_At.f (a0_0 : Int) (a0_1 : Int) (l0_2 : List Bool) (a1 : Int) (a2 : Int) : Option (Bool) := (raster_Check.f a0_0 a0_1 l0_2).bind fun t156 => (if t156 = 0 then ((raster_at.f a0_0 a0_1 l0_2 a1 a2).bind fun t157 => (some t157)) else (some false))
set_option maxHeartbeats 8000000 in
set_option maxRecDepth 100000 in
theorem raster_At.calls (a0_0 : Int) (a0_1 : Int) (A0_2 : Option Addr) (c0_2 : Nat) (l0_2 : List Bool) (a1 : Int) (a2 : Int) (r : Bool) (w : World) (hr0_2 : Kd.C Kd.bool w A0_2 l0_2.length l0_2) (hc0_2 : l0_2.length ≤ c0_2) (h : raster_At.f a0_0 a0_1 l0_2 a1 a2 = some r) :
  Calls Try.prog 34 #[.agg #[.int .i64 a0_0, .int .i64 a0_1, .slice A0_2 l0_2.length c0_2], .int .i64 a1, .int .i64 a2] w fun e w' => e = .returned (.bool r) ∧ Below w.heap.size w w' := by
 have hu24 := Try.underlying24
 have HR0_2 := Aside0.mk hr0_2
 have HC0_2 := Aside0.mk hc0_2
 clear hr0_2 hc0_2
 have HB := Aside0.mk (Below.refl w.heap.size w)
 have H : ((raster_Check.f a0_0 a0_1 l0_2).bind fun t156 => (if t156 = 0 then ((raster_at.f a0_0 a0_1 l0_2 a1 a2).bind fun t157 => (some t157)) else (some false))) = some r := h
 clear h
 replace H := Option.bind_eq_some_iff.mp H
 obtain ⟨t156, A40, H⟩ := H
 replace H : (if t156 = 0 then ((raster_at.f a0_0 a0_1 l0_2 a1 a2).bind fun t157 => (some t157)) else (some false)) = some r := H
 have A4 := Aside0.mk A40
 clear A40
 by_cases c5 : t156 = 0
 ·rw [if_pos c5] at H
  have c5b0 : (t156 == 0) = true := beq_iff_eq.mpr c5
  have c5b1 : (t156 != 0) = false := bne_eq_false_iff_eq.mpr c5
  clear c5
  replace H := Option.bind_eq_some_iff.mp H
  obtain ⟨t157, A60, H⟩ := H
  replace H : (some t157) = some r := H
  have A6 := Aside0.mk A60
  clear A60
  obtain rfl := Option.some.inj H
  go_enter Try.func34, Try.ntmps34
  go_wp2_with (first | ((with_reducible refine gate_dst (N := 3) rfl ?_); refine box_event ?hg (N := 3) ?hd (cs := #[.int .i64 a0_0, .int .i64 a0_1, .slice A0_2 l0_2.length c0_2]) (t := 24) ?hr ?_; (case hd => rfl); (case hg => rfl); (case hr => first | (go_simp; done) | (go_simp; rfl)); intro gb155 hg w7 hbox hb; have n0_ := Aside0.mk (below_step (hb0 HB) hb); have n1_ := Aside0.mk (hbox); have n2_ := Aside0.mk ((by rw [hg]; exact (below_size (hb0 HB)) : w.heap.size ≤ gb155)); have n3_ := Aside0.mk ((by rw [hg]; exact (below_size (hb0 HB)) : w.heap.size ≤ gb155)); clear HB; have HB := n0_; have BK155 := n1_; have GW155 := n2_; have GE155 := n3_; clear n0_ n1_ n2_ n3_; clear hb hbox hg; have hcz8_0 : w7.cell? ⟨gb155, 0, none⟩ = some (.int .i64 a0_0) := (blk_cell BK155.out 0).trans rfl; have hcz8_1 : w7.cell? ⟨gb155, 1, none⟩ = some (.int .i64 a0_1) := (blk_cell BK155.out 1).trans rfl; have hcz8_2 : w7.cell? ⟨gb155, 2, none⟩ = some (.slice A0_2 l0_2.length c0_2) := (blk_cell BK155.out 2).trans rfl; have hfz8_0 := blk_frozen BK155.out 0; have hfz8_1 := blk_frozen BK155.out 1; have hfz8_2 := blk_frozen BK155.out 2) | ((with_reducible refine gate_callee (f := 23) rfl ?_); refine goesL_ (some 8) rfl rfl Try.func23 (by kernel_rfl) rfl #[.agg #[.int .i64 a0_0, .int .i64 a0_1, .slice A0_2 l0_2.length c0_2]] rfl mapx ?_; (with_reducible refine (raster_Check.calls a0_0 a0_1 _ _ l0_2 t156 _ ?side1 ?side2 A4.out).mono ?_); (case side1 => repeat (first | exact (Kd.C_below HR0_2.out HB.out) | (with_reducible refine Kd.C_alloc ?_ _) | (with_reducible refine Kd.C_drewN ?_ _) | (with_reducible refine Kd.C_drew ?_))); (case side2 => exact HC0_2.out); rintro e w9 ⟨rfl, hb⟩; refine ⟨_, rfl, ?_⟩; have n0_ := Aside0.mk (blk_below (bkx BK155) hb); have n1_ := Aside0.mk (below_step (hb1 HB GE155) hb); clear BK155; clear HB; have BK155 := n0_; have HB := n1_; clear n0_ n1_; (try clear hb); (try clear hb2); (try clear hk); (try clear hi); have hcz10_0 : w9.cell? ⟨gb155, 0, none⟩ = some (.int .i64 a0_0) := (blk_cell BK155.out 0).trans rfl; have hcz10_1 : w9.cell? ⟨gb155, 1, none⟩ = some (.int .i64 a0_1) := (blk_cell BK155.out 1).trans rfl; have hcz10_2 : w9.cell? ⟨gb155, 2, none⟩ = some (.slice A0_2 l0_2.length c0_2) := (blk_cell BK155.out 2).trans rfl; have hfz10_0 := blk_frozen BK155.out 0; have hfz10_1 := blk_frozen BK155.out 1; have hfz10_2 := blk_frozen BK155.out 2) | (go_at_call 55; (with_reducible refine (raster_at.calls a0_0 a0_1 _ _ l0_2 a1 a2 t157 _ ?side1 ?side2 A6.out).mono ?_); (case side1 => repeat (first | exact (Kd.C_below HR0_2.out HB.out) | (with_reducible refine Kd.C_alloc ?_ _) | (with_reducible refine Kd.C_drewN ?_ _) | (with_reducible refine Kd.C_drew ?_))); (case side2 => exact HC0_2.out); rintro e w11 ⟨rfl, hb⟩; have n0_ := Aside0.mk (blk_below (bkx BK155) hb); have n1_ := Aside0.mk (below_step (hb1 HB GE155) hb); clear BK155; clear HB; have BK155 := n0_; have HB := n1_; clear n0_ n1_; (try clear hb); (try clear hb2); (try clear hk); (try clear hi)))
  go_ret
  exact ⟨by first | rfl | (simp [errW_none, errW_some] <;> rfl) | (simp [*, errW_none, errW_some] <;> rfl), by repeat (first | (with_reducible first | exact HB.out | apply below_alloc | apply pw_below_drewN | apply below_drew1 | refine below_set ?_ GE155.out) | exact HB.out)⟩
 ·rw [if_neg c5] at H
  have c5b0 : (t156 == 0) = false := beq_eq_false_iff_ne.mpr c5
  have c5b1 : (t156 != 0) = true := bne_iff_ne.mpr c5
  obtain rfl := Option.some.inj H
  go_enter Try.func34, Try.ntmps34
  go_wp2_with (first | ((with_reducible refine gate_dst (N := 3) rfl ?_); refine box_event ?hg (N := 3) ?hd (cs := #[.int .i64 a0_0, .int .i64 a0_1, .slice A0_2 l0_2.length c0_2]) (t := 24) ?hr ?_; (case hd => rfl); (case hg => rfl); (case hr => first | (go_simp; done) | (go_simp; rfl)); intro gb155 hg w12 hbox hb; have n0_ := Aside0.mk (below_step (hb0 HB) hb); have n1_ := Aside0.mk (hbox); have n2_ := Aside0.mk ((by rw [hg]; exact (below_size (hb0 HB)) : w.heap.size ≤ gb155)); have n3_ := Aside0.mk ((by rw [hg]; exact (below_size (hb0 HB)) : w.heap.size ≤ gb155)); clear HB; have HB := n0_; have BK155 := n1_; have GW155 := n2_; have GE155 := n3_; clear n0_ n1_ n2_ n3_; clear hb hbox hg; have hcz13_0 : w12.cell? ⟨gb155, 0, none⟩ = some (.int .i64 a0_0) := (blk_cell BK155.out 0).trans rfl; have hcz13_1 : w12.cell? ⟨gb155, 1, none⟩ = some (.int .i64 a0_1) := (blk_cell BK155.out 1).trans rfl; have hcz13_2 : w12.cell? ⟨gb155, 2, none⟩ = some (.slice A0_2 l0_2.length c0_2) := (blk_cell BK155.out 2).trans rfl; have hfz13_0 := blk_frozen BK155.out 0; have hfz13_1 := blk_frozen BK155.out 1; have hfz13_2 := blk_frozen BK155.out 2) | ((with_reducible refine gate_callee (f := 23) rfl ?_); refine goesL_ (some 8) rfl rfl Try.func23 (by kernel_rfl) rfl #[.agg #[.int .i64 a0_0, .int .i64 a0_1, .slice A0_2 l0_2.length c0_2]] rfl mapx ?_; (with_reducible refine (raster_Check.calls a0_0 a0_1 _ _ l0_2 t156 _ ?side1 ?side2 A4.out).mono ?_); (case side1 => repeat (first | exact (Kd.C_below HR0_2.out HB.out) | (with_reducible refine Kd.C_alloc ?_ _) | (with_reducible refine Kd.C_drewN ?_ _) | (with_reducible refine Kd.C_drew ?_))); (case side2 => exact HC0_2.out); rintro e w14 ⟨rfl, hb⟩; refine ⟨_, rfl, ?_⟩; have n0_ := Aside0.mk (blk_below (bkx BK155) hb); have n1_ := Aside0.mk (below_step (hb1 HB GE155) hb); clear BK155; clear HB; have BK155 := n0_; have HB := n1_; clear n0_ n1_; (try clear hb); (try clear hb2); (try clear hk); (try clear hi)))
  go_ret
  exact ⟨by first | rfl | (simp [errW_none, errW_some] <;> rfl) | (simp [*, errW_none, errW_some] <;> rfl), by repeat (first | (with_reducible first | exact HB.out | apply below_alloc | apply pw_below_drewN | apply below_drew1 | refine below_set ?_ GE155.out) | exact HB.out)⟩

/-! ### barscanlaw31_examples: function 13 -/
def barscanlaw31_examples.f (k : Nat)  : Option (Bool) := (raster_Turn.f k 2 1 (([true, false] : List Bool)) 1).bind fun bt161 => ((raster_Crop.f k 1 1 (([true] : List Bool)) (-1) 0 3 1).bind fun bt171 => ((raster_New.f 5 4).bind fun bt178 => (if bt161.2.2.2 = 0 then (if bt171.2.2.2 = 0 then (if bt178.2.2.2 = 0 then (if (bt178.2.2.1.length : Int) = 20 then (if bt161.1 = 1 then (if (bt161.2.2.1.length : Int) = 2 then (if (bt171.2.2.1.length : Int) = 3 then (if 11 < (bt178.2.2.1.length : Int) then (if 8 < (bt178.2.2.1.length : Int) then ((some ((bt178.2.2.1.set (11 : Int).toNat true).set (8 : Int).toNat true : List Bool)).bind fun y186 => ((raster_Bounds.f bt178.1 bt178.2.1 y186).bind fun bt187 => ((raster_New.f 0 1).bind fun bt193 => (if 0 < (bt161.2.2.1.length : Int) then (if rdOf false bt161.2.2.1 0 = true then (if 1 < (bt161.2.2.1.length : Int) then (if rdOf false bt161.2.2.1 1 = true then (none) else (if 1 < (bt171.2.2.1.length : Int) then (if rdOf false bt171.2.2.1 1 = true then (if 0 < (bt171.2.2.1.length : Int) then (if rdOf false bt171.2.2.1 0 = true then (none) else (if bt187.2.2.2.2 = true then (if (bt187.1 == 1 && (bt187.2.1 == 1 && (bt187.2.2.1 == 3 && (bt187.2.2.2.1 == 2)))) = true then (if bt193.2.2.2 = 23 then ((raster_At.f bt178.1 bt178.2.1 y186 1 2).bind fun t204 => (if t204 = true then ((raster_At.f bt178.1 bt178.2.1 y186 2 1).bind fun t205 => (some (!t205))) else (none))) else (none)) else (none)) else (none))) else (none)) else (none)) else (none))) else (none)) else (none)) else (none))))) else (none)) else (none)) else (none)) else (none)) else (none)) else (none)) else (none)) else (none)) else (none))))
theorem barscanlaw31_examples.mono : ∀ k, LeO (barscanlaw31_examples.f k ) (barscanlaw31_examples.f (k + 1) ) := by
 intro  k
 unfold barscanlaw31_examples.f
 repeat' first
   | (with_reducible exact raster_Crop.mono _ _ _ _ _ _ _ _)
   | (with_reducible exact raster_Turn.mono _ _ _ _ _)
   | (with_reducible exact LeO.refl _)
   | (with_reducible exact LeO.none _)
   | (with_reducible refine LeO.ite ?_ ?_)
   | (with_reducible refine LeO.bind ?_ (fun _ => ?_))
   | exact raster_Crop.mono _ _ _ _ _ _ _ _
   | exact raster_Turn.mono _ _ _ _ _
   | exact LeO.none _
   | refine LeO.ite ?_ ?_
   | refine LeO.bind ?_ (fun _ => ?_)
set_option maxHeartbeats 8000000 in
set_option maxRecDepth 100000 in
theorem barscanlaw31_examples.calls (k : Nat)  (r : Bool) (w : World) (h : barscanlaw31_examples.f k  = some r) :
  Calls Try.prog 13 #[] w fun e w' => e = .returned (.bool r) ∧ Below w.heap.size w w' := by
 have hu24 := Try.underlying24
 have hu26 := Try.underlying26
 have HB := Aside0.mk (Below.refl w.heap.size w)
 have H : ((raster_Turn.f k 2 1 (([true, false] : List Bool)) 1).bind fun bt161 => ((raster_Crop.f k 1 1 (([true] : List Bool)) (-1) 0 3 1).bind fun bt171 => ((raster_New.f 5 4).bind fun bt178 => (if bt161.2.2.2 = 0 then (if bt171.2.2.2 = 0 then (if bt178.2.2.2 = 0 then (if (bt178.2.2.1.length : Int) = 20 then (if bt161.1 = 1 then (if (bt161.2.2.1.length : Int) = 2 then (if (bt171.2.2.1.length : Int) = 3 then (if 11 < (bt178.2.2.1.length : Int) then (if 8 < (bt178.2.2.1.length : Int) then ((some ((bt178.2.2.1.set (11 : Int).toNat true).set (8 : Int).toNat true : List Bool)).bind fun y186 => ((raster_Bounds.f bt178.1 bt178.2.1 y186).bind fun bt187 => ((raster_New.f 0 1).bind fun bt193 => (if 0 < (bt161.2.2.1.length : Int) then (if rdOf false bt161.2.2.1 0 = true then (if 1 < (bt161.2.2.1.length : Int) then (if rdOf false bt161.2.2.1 1 = true then (none) else (if 1 < (bt171.2.2.1.length : Int) then (if rdOf false bt171.2.2.1 1 = true then (if 0 < (bt171.2.2.1.length : Int) then (if rdOf false bt171.2.2.1 0 = true then (none) else (if bt187.2.2.2.2 = true then (if (bt187.1 == 1 && (bt187.2.1 == 1 && (bt187.2.2.1 == 3 && (bt187.2.2.2.1 == 2)))) = true then (if bt193.2.2.2 = 23 then ((raster_At.f bt178.1 bt178.2.1 y186 1 2).bind fun t204 => (if t204 = true then ((raster_At.f bt178.1 bt178.2.1 y186 2 1).bind fun t205 => (some (!t205))) else (none))) else (none)) else (none)) else (none))) else (none)) else (none)) else (none))) else (none)) else (none)) else (none))))) else (none)) else (none)) else (none)) else (none)) else (none)) else (none)) else (none)) else (none)) else (none))))) = some r := h
 clear h
 obtain ⟨y158, hy158⟩ : ∃ y_ : List Bool, y_ = (([true, false] : List Bool)) := ⟨_, rfl⟩
 replace H : ((raster_Turn.f k 2 1 y158 1).bind fun bt161 => ((raster_Crop.f k 1 1 (([true] : List Bool)) (-1) 0 3 1).bind fun bt171 => ((raster_New.f 5 4).bind fun bt178 => (if bt161.2.2.2 = 0 then (if bt171.2.2.2 = 0 then (if bt178.2.2.2 = 0 then (if (bt178.2.2.1.length : Int) = 20 then (if bt161.1 = 1 then (if (bt161.2.2.1.length : Int) = 2 then (if (bt171.2.2.1.length : Int) = 3 then (if 11 < (bt178.2.2.1.length : Int) then (if 8 < (bt178.2.2.1.length : Int) then ((some ((bt178.2.2.1.set (11 : Int).toNat true).set (8 : Int).toNat true : List Bool)).bind fun y186 => ((raster_Bounds.f bt178.1 bt178.2.1 y186).bind fun bt187 => ((raster_New.f 0 1).bind fun bt193 => (if 0 < (bt161.2.2.1.length : Int) then (if rdOf false bt161.2.2.1 0 = true then (if 1 < (bt161.2.2.1.length : Int) then (if rdOf false bt161.2.2.1 1 = true then (none) else (if 1 < (bt171.2.2.1.length : Int) then (if rdOf false bt171.2.2.1 1 = true then (if 0 < (bt171.2.2.1.length : Int) then (if rdOf false bt171.2.2.1 0 = true then (none) else (if bt187.2.2.2.2 = true then (if (bt187.1 == 1 && (bt187.2.1 == 1 && (bt187.2.2.1 == 3 && (bt187.2.2.2.1 == 2)))) = true then (if bt193.2.2.2 = 23 then ((raster_At.f bt178.1 bt178.2.1 y186 1 2).bind fun t204 => (if t204 = true then ((raster_At.f bt178.1 bt178.2.1 y186 2 1).bind fun t205 => (some (!t205))) else (none))) else (none)) else (none)) else (none))) else (none)) else (none)) else (none))) else (none)) else (none)) else (none))))) else (none)) else (none)) else (none)) else (none)) else (none)) else (none)) else (none)) else (none)) else (none))))) = some r := by first | (rw [hy158]; with_reducible exact H) | (have H2_ := (Option.bind_some _ _).symm.trans H; rw [hy158]; with_reducible exact H2_) | (have H2_ := (Option.bind_some _ _).symm.trans H; with_reducible exact H2_) | with_reducible exact H | (rw [hy158]; exact H) | exact H
 have Ny158 := Aside0.mk hy158
 clear hy158
 replace H := Option.bind_eq_some_iff.mp H
 obtain ⟨⟨t161, t162, t163, t166⟩, A10, H⟩ := H
 replace H : ((raster_Crop.f k 1 1 (([true] : List Bool)) (-1) 0 3 1).bind fun bt171 => ((raster_New.f 5 4).bind fun bt178 => (if t166 = 0 then (if bt171.2.2.2 = 0 then (if bt178.2.2.2 = 0 then (if (bt178.2.2.1.length : Int) = 20 then (if t161 = 1 then (if (t163.length : Int) = 2 then (if (bt171.2.2.1.length : Int) = 3 then (if 11 < (bt178.2.2.1.length : Int) then (if 8 < (bt178.2.2.1.length : Int) then ((some ((bt178.2.2.1.set (11 : Int).toNat true).set (8 : Int).toNat true : List Bool)).bind fun y186 => ((raster_Bounds.f bt178.1 bt178.2.1 y186).bind fun bt187 => ((raster_New.f 0 1).bind fun bt193 => (if 0 < (t163.length : Int) then (if rdOf false t163 0 = true then (if 1 < (t163.length : Int) then (if rdOf false t163 1 = true then (none) else (if 1 < (bt171.2.2.1.length : Int) then (if rdOf false bt171.2.2.1 1 = true then (if 0 < (bt171.2.2.1.length : Int) then (if rdOf false bt171.2.2.1 0 = true then (none) else (if bt187.2.2.2.2 = true then (if (bt187.1 == 1 && (bt187.2.1 == 1 && (bt187.2.2.1 == 3 && (bt187.2.2.2.1 == 2)))) = true then (if bt193.2.2.2 = 23 then ((raster_At.f bt178.1 bt178.2.1 y186 1 2).bind fun t204 => (if t204 = true then ((raster_At.f bt178.1 bt178.2.1 y186 2 1).bind fun t205 => (some (!t205))) else (none))) else (none)) else (none)) else (none))) else (none)) else (none)) else (none))) else (none)) else (none)) else (none))))) else (none)) else (none)) else (none)) else (none)) else (none)) else (none)) else (none)) else (none)) else (none)))) = some r := H
 have A1 := Aside0.mk A10
 clear A10
 obtain ⟨y168, hy168⟩ : ∃ y_ : List Bool, y_ = (([true] : List Bool)) := ⟨_, rfl⟩
 replace H : ((raster_Crop.f k 1 1 y168 (-1) 0 3 1).bind fun bt171 => ((raster_New.f 5 4).bind fun bt178 => (if t166 = 0 then (if bt171.2.2.2 = 0 then (if bt178.2.2.2 = 0 then (if (bt178.2.2.1.length : Int) = 20 then (if t161 = 1 then (if (t163.length : Int) = 2 then (if (bt171.2.2.1.length : Int) = 3 then (if 11 < (bt178.2.2.1.length : Int) then (if 8 < (bt178.2.2.1.length : Int) then ((some ((bt178.2.2.1.set (11 : Int).toNat true).set (8 : Int).toNat true : List Bool)).bind fun y186 => ((raster_Bounds.f bt178.1 bt178.2.1 y186).bind fun bt187 => ((raster_New.f 0 1).bind fun bt193 => (if 0 < (t163.length : Int) then (if rdOf false t163 0 = true then (if 1 < (t163.length : Int) then (if rdOf false t163 1 = true then (none) else (if 1 < (bt171.2.2.1.length : Int) then (if rdOf false bt171.2.2.1 1 = true then (if 0 < (bt171.2.2.1.length : Int) then (if rdOf false bt171.2.2.1 0 = true then (none) else (if bt187.2.2.2.2 = true then (if (bt187.1 == 1 && (bt187.2.1 == 1 && (bt187.2.2.1 == 3 && (bt187.2.2.2.1 == 2)))) = true then (if bt193.2.2.2 = 23 then ((raster_At.f bt178.1 bt178.2.1 y186 1 2).bind fun t204 => (if t204 = true then ((raster_At.f bt178.1 bt178.2.1 y186 2 1).bind fun t205 => (some (!t205))) else (none))) else (none)) else (none)) else (none))) else (none)) else (none)) else (none))) else (none)) else (none)) else (none))))) else (none)) else (none)) else (none)) else (none)) else (none)) else (none)) else (none)) else (none)) else (none)))) = some r := by first | (rw [hy168]; with_reducible exact H) | (have H2_ := (Option.bind_some _ _).symm.trans H; rw [hy168]; with_reducible exact H2_) | (have H2_ := (Option.bind_some _ _).symm.trans H; with_reducible exact H2_) | with_reducible exact H | (rw [hy168]; exact H) | exact H
 have Ny168 := Aside0.mk hy168
 clear hy168
 replace H := Option.bind_eq_some_iff.mp H
 obtain ⟨⟨t171, t172, t173, t176⟩, A20, H⟩ := H
 replace H : ((raster_New.f 5 4).bind fun bt178 => (if t166 = 0 then (if t176 = 0 then (if bt178.2.2.2 = 0 then (if (bt178.2.2.1.length : Int) = 20 then (if t161 = 1 then (if (t163.length : Int) = 2 then (if (t173.length : Int) = 3 then (if 11 < (bt178.2.2.1.length : Int) then (if 8 < (bt178.2.2.1.length : Int) then ((some ((bt178.2.2.1.set (11 : Int).toNat true).set (8 : Int).toNat true : List Bool)).bind fun y186 => ((raster_Bounds.f bt178.1 bt178.2.1 y186).bind fun bt187 => ((raster_New.f 0 1).bind fun bt193 => (if 0 < (t163.length : Int) then (if rdOf false t163 0 = true then (if 1 < (t163.length : Int) then (if rdOf false t163 1 = true then (none) else (if 1 < (t173.length : Int) then (if rdOf false t173 1 = true then (if 0 < (t173.length : Int) then (if rdOf false t173 0 = true then (none) else (if bt187.2.2.2.2 = true then (if (bt187.1 == 1 && (bt187.2.1 == 1 && (bt187.2.2.1 == 3 && (bt187.2.2.2.1 == 2)))) = true then (if bt193.2.2.2 = 23 then ((raster_At.f bt178.1 bt178.2.1 y186 1 2).bind fun t204 => (if t204 = true then ((raster_At.f bt178.1 bt178.2.1 y186 2 1).bind fun t205 => (some (!t205))) else (none))) else (none)) else (none)) else (none))) else (none)) else (none)) else (none))) else (none)) else (none)) else (none))))) else (none)) else (none)) else (none)) else (none)) else (none)) else (none)) else (none)) else (none)) else (none))) = some r := H
 have A2 := Aside0.mk A20
 clear A20
 replace H := Option.bind_eq_some_iff.mp H
 obtain ⟨⟨t178, t179, t180, t183⟩, A30, H⟩ := H
 replace H : (if t166 = 0 then (if t176 = 0 then (if t183 = 0 then (if (t180.length : Int) = 20 then (if t161 = 1 then (if (t163.length : Int) = 2 then (if (t173.length : Int) = 3 then (if 11 < (t180.length : Int) then (if 8 < (t180.length : Int) then ((some ((t180.set (11 : Int).toNat true).set (8 : Int).toNat true : List Bool)).bind fun y186 => ((raster_Bounds.f t178 t179 y186).bind fun bt187 => ((raster_New.f 0 1).bind fun bt193 => (if 0 < (t163.length : Int) then (if rdOf false t163 0 = true then (if 1 < (t163.length : Int) then (if rdOf false t163 1 = true then (none) else (if 1 < (t173.length : Int) then (if rdOf false t173 1 = true then (if 0 < (t173.length : Int) then (if rdOf false t173 0 = true then (none) else (if bt187.2.2.2.2 = true then (if (bt187.1 == 1 && (bt187.2.1 == 1 && (bt187.2.2.1 == 3 && (bt187.2.2.2.1 == 2)))) = true then (if bt193.2.2.2 = 23 then ((raster_At.f t178 t179 y186 1 2).bind fun t204 => (if t204 = true then ((raster_At.f t178 t179 y186 2 1).bind fun t205 => (some (!t205))) else (none))) else (none)) else (none)) else (none))) else (none)) else (none)) else (none))) else (none)) else (none)) else (none))))) else (none)) else (none)) else (none)) else (none)) else (none)) else (none)) else (none)) else (none)) else (none)) = some r := H
 have A3 := Aside0.mk A30
 clear A30
 by_cases c4 : t166 = 0
 ·rw [if_pos c4] at H
  have c4b0 : (t166 == 0) = true := beq_iff_eq.mpr c4
  have c4b1 : (t166 != 0) = false := bne_eq_false_iff_eq.mpr c4
  clear c4
  by_cases c5 : t176 = 0
  ·rw [if_pos c5] at H
   have c5b0 : (t176 == 0) = true := beq_iff_eq.mpr c5
   have c5b1 : (t176 != 0) = false := bne_eq_false_iff_eq.mpr c5
   clear c5
   by_cases c6 : t183 = 0
   ·rw [if_pos c6] at H
    have c6b0 : (t183 == 0) = true := beq_iff_eq.mpr c6
    have c6b1 : (t183 != 0) = false := bne_eq_false_iff_eq.mpr c6
    clear c6
    by_cases c7 : (t180.length : Int) = 20
    ·rw [if_pos c7] at H
     have c7b0 : ((t180.length : Int) == 20) = true := beq_iff_eq.mpr c7
     have c7b1 : ((t180.length : Int) != 20) = false := bne_eq_false_iff_eq.mpr c7
     clear c7
     by_cases c8 : t161 = 1
     ·rw [if_pos c8] at H
      have c8b0 : (t161 == 1) = true := beq_iff_eq.mpr c8
      have c8b1 : (t161 != 1) = false := bne_eq_false_iff_eq.mpr c8
      clear c8
      by_cases c9 : (t163.length : Int) = 2
      ·rw [if_pos c9] at H
       have c9b0 : ((t163.length : Int) == 2) = true := beq_iff_eq.mpr c9
       have c9b1 : ((t163.length : Int) != 2) = false := bne_eq_false_iff_eq.mpr c9
       clear c9
       by_cases c10 : (t173.length : Int) = 3
       ·rw [if_pos c10] at H
        have c10b0 : ((t173.length : Int) == 3) = true := beq_iff_eq.mpr c10
        have c10b1 : ((t173.length : Int) != 3) = false := bne_eq_false_iff_eq.mpr c10
        clear c10
        by_cases c11 : 11 < (t180.length : Int)
        ·rw [if_pos c11] at H
         have c11b0 : decide (11 < (t180.length : Int)) = true := decide_eq_true c11
         have c11b1 : decide (11 < t180.length) = true := decide_eq_true (by omega)
         clear c11
         obtain ⟨y185, hy185⟩ : ∃ y_ : List Bool, y_ = (t180.set (11 : Int).toNat true) := ⟨_, rfl⟩
         replace H : (if 8 < (t180.length : Int) then ((some (y185.set (8 : Int).toNat true : List Bool)).bind fun y186 => ((raster_Bounds.f t178 t179 y186).bind fun bt187 => ((raster_New.f 0 1).bind fun bt193 => (if 0 < (t163.length : Int) then (if rdOf false t163 0 = true then (if 1 < (t163.length : Int) then (if rdOf false t163 1 = true then (none) else (if 1 < (t173.length : Int) then (if rdOf false t173 1 = true then (if 0 < (t173.length : Int) then (if rdOf false t173 0 = true then (none) else (if bt187.2.2.2.2 = true then (if (bt187.1 == 1 && (bt187.2.1 == 1 && (bt187.2.2.1 == 3 && (bt187.2.2.2.1 == 2)))) = true then (if bt193.2.2.2 = 23 then ((raster_At.f t178 t179 y186 1 2).bind fun t204 => (if t204 = true then ((raster_At.f t178 t179 y186 2 1).bind fun t205 => (some (!t205))) else (none))) else (none)) else (none)) else (none))) else (none)) else (none)) else (none))) else (none)) else (none)) else (none))))) else (none)) = some r := by first | (rw [hy185]; with_reducible exact H) | (have H2_ := (Option.bind_some _ _).symm.trans H; rw [hy185]; with_reducible exact H2_) | (have H2_ := (Option.bind_some _ _).symm.trans H; with_reducible exact H2_) | with_reducible exact H | (rw [hy185]; exact H) | exact H
         have Ny185 := Aside0.mk hy185
         clear hy185
         by_cases c13 : 8 < (t180.length : Int)
         ·rw [if_pos c13] at H
          have c13b0 : decide (8 < (t180.length : Int)) = true := decide_eq_true c13
          have c13b1 : decide (8 < t180.length) = true := decide_eq_true (by omega)
          clear c13
          obtain ⟨y186, hy186⟩ : ∃ y_ : List Bool, y_ = (y185.set (8 : Int).toNat true) := ⟨_, rfl⟩
          replace H : ((raster_Bounds.f t178 t179 y186).bind fun bt187 => ((raster_New.f 0 1).bind fun bt193 => (if 0 < (t163.length : Int) then (if rdOf false t163 0 = true then (if 1 < (t163.length : Int) then (if rdOf false t163 1 = true then (none) else (if 1 < (t173.length : Int) then (if rdOf false t173 1 = true then (if 0 < (t173.length : Int) then (if rdOf false t173 0 = true then (none) else (if bt187.2.2.2.2 = true then (if (bt187.1 == 1 && (bt187.2.1 == 1 && (bt187.2.2.1 == 3 && (bt187.2.2.2.1 == 2)))) = true then (if bt193.2.2.2 = 23 then ((raster_At.f t178 t179 y186 1 2).bind fun t204 => (if t204 = true then ((raster_At.f t178 t179 y186 2 1).bind fun t205 => (some (!t205))) else (none))) else (none)) else (none)) else (none))) else (none)) else (none)) else (none))) else (none)) else (none)) else (none)))) = some r := by first | (rw [hy186]; with_reducible exact H) | (have H2_ := (Option.bind_some _ _).symm.trans H; rw [hy186]; with_reducible exact H2_) | (have H2_ := (Option.bind_some _ _).symm.trans H; with_reducible exact H2_) | with_reducible exact H | (rw [hy186]; exact H) | exact H
          have Ny186 := Aside0.mk hy186
          clear hy186
          replace H := Option.bind_eq_some_iff.mp H
          obtain ⟨⟨t187, t188, t189, t190, t191⟩, A150, H⟩ := H
          replace H : ((raster_New.f 0 1).bind fun bt193 => (if 0 < (t163.length : Int) then (if rdOf false t163 0 = true then (if 1 < (t163.length : Int) then (if rdOf false t163 1 = true then (none) else (if 1 < (t173.length : Int) then (if rdOf false t173 1 = true then (if 0 < (t173.length : Int) then (if rdOf false t173 0 = true then (none) else (if t191 = true then (if (t187 == 1 && (t188 == 1 && (t189 == 3 && (t190 == 2)))) = true then (if bt193.2.2.2 = 23 then ((raster_At.f t178 t179 y186 1 2).bind fun t204 => (if t204 = true then ((raster_At.f t178 t179 y186 2 1).bind fun t205 => (some (!t205))) else (none))) else (none)) else (none)) else (none))) else (none)) else (none)) else (none))) else (none)) else (none)) else (none))) = some r := H
          have A15 := Aside0.mk A150
          clear A150
          replace H := Option.bind_eq_some_iff.mp H
          obtain ⟨⟨t193, t194, t195, t198⟩, A160, H⟩ := H
          replace H : (if 0 < (t163.length : Int) then (if rdOf false t163 0 = true then (if 1 < (t163.length : Int) then (if rdOf false t163 1 = true then (none) else (if 1 < (t173.length : Int) then (if rdOf false t173 1 = true then (if 0 < (t173.length : Int) then (if rdOf false t173 0 = true then (none) else (if t191 = true then (if (t187 == 1 && (t188 == 1 && (t189 == 3 && (t190 == 2)))) = true then (if t198 = 23 then ((raster_At.f t178 t179 y186 1 2).bind fun t204 => (if t204 = true then ((raster_At.f t178 t179 y186 2 1).bind fun t205 => (some (!t205))) else (none))) else (none)) else (none)) else (none))) else (none)) else (none)) else (none))) else (none)) else (none)) else (none)) = some r := H
          have A16 := Aside0.mk A160
          clear A160
          by_cases c17 : 0 < (t163.length : Int)
          ·rw [if_pos c17] at H
           have c17b0 : decide (0 < (t163.length : Int)) = true := decide_eq_true c17
           have c17b1 : decide (0 < t163.length) = true := decide_eq_true (by omega)
           clear c17
           obtain ⟨bq18, hbq18⟩ : ∃ b_ : Bool, b_ = (rdOf false t163 0) := ⟨_, rfl⟩
           replace H : (if bq18 = true then (if 1 < (t163.length : Int) then (if rdOf false t163 1 = true then (none) else (if 1 < (t173.length : Int) then (if rdOf false t173 1 = true then (if 0 < (t173.length : Int) then (if rdOf false t173 0 = true then (none) else (if t191 = true then (if (t187 == 1 && (t188 == 1 && (t189 == 3 && (t190 == 2)))) = true then (if t198 = 23 then ((raster_At.f t178 t179 y186 1 2).bind fun t204 => (if t204 = true then ((raster_At.f t178 t179 y186 2 1).bind fun t205 => (some (!t205))) else (none))) else (none)) else (none)) else (none))) else (none)) else (none)) else (none))) else (none)) else (none)) = some r := by rw [← hbq18] at H; exact H
           have Nbq18 := Aside0.mk hbq18
           clear hbq18
           by_cases c19 : bq18 = true
           ·subst c19
            have H1 : (if 1 < (t163.length : Int) then (if rdOf false t163 1 = true then (none) else (if 1 < (t173.length : Int) then (if rdOf false t173 1 = true then (if 0 < (t173.length : Int) then (if rdOf false t173 0 = true then (none) else (if t191 = true then (if (t187 == 1 && (t188 == 1 && (t189 == 3 && (t190 == 2)))) = true then (if t198 = 23 then ((raster_At.f t178 t179 y186 1 2).bind fun t204 => (if t204 = true then ((raster_At.f t178 t179 y186 2 1).bind fun t205 => (some (!t205))) else (none))) else (none)) else (none)) else (none))) else (none)) else (none)) else (none))) else (none)) = some r := by rw [if_pos rfl] at H; exact H
            clear H
            have H := H1
            clear H1
            by_cases c20 : 1 < (t163.length : Int)
            ·rw [if_pos c20] at H
             have c20b0 : decide (1 < (t163.length : Int)) = true := decide_eq_true c20
             have c20b1 : decide (1 < t163.length) = true := decide_eq_true (by omega)
             clear c20
             obtain ⟨bq21, hbq21⟩ : ∃ b_ : Bool, b_ = (rdOf false t163 1) := ⟨_, rfl⟩
             replace H : (if bq21 = true then (none) else (if 1 < (t173.length : Int) then (if rdOf false t173 1 = true then (if 0 < (t173.length : Int) then (if rdOf false t173 0 = true then (none) else (if t191 = true then (if (t187 == 1 && (t188 == 1 && (t189 == 3 && (t190 == 2)))) = true then (if t198 = 23 then ((raster_At.f t178 t179 y186 1 2).bind fun t204 => (if t204 = true then ((raster_At.f t178 t179 y186 2 1).bind fun t205 => (some (!t205))) else (none))) else (none)) else (none)) else (none))) else (none)) else (none)) else (none))) = some r := by rw [← hbq21] at H; exact H
             have Nbq21 := Aside0.mk hbq21
             clear hbq21
             by_cases c22 : bq21 = true
             ·subst c22
              have H1 : (none) = some r := by rw [if_pos rfl] at H; exact H
              clear H
              have H := H1
              clear H1
              exact absurd H (by simp)
             ·replace c22 := Bool.eq_false_iff.mpr c22
              subst c22
              have H1 : (if 1 < (t173.length : Int) then (if rdOf false t173 1 = true then (if 0 < (t173.length : Int) then (if rdOf false t173 0 = true then (none) else (if t191 = true then (if (t187 == 1 && (t188 == 1 && (t189 == 3 && (t190 == 2)))) = true then (if t198 = 23 then ((raster_At.f t178 t179 y186 1 2).bind fun t204 => (if t204 = true then ((raster_At.f t178 t179 y186 2 1).bind fun t205 => (some (!t205))) else (none))) else (none)) else (none)) else (none))) else (none)) else (none)) else (none)) = some r := by rw [if_neg (show ¬ (false = true) by decide)] at H; exact H
              clear H
              have H := H1
              clear H1
              by_cases c23 : 1 < (t173.length : Int)
              ·rw [if_pos c23] at H
               have c23b0 : decide (1 < (t173.length : Int)) = true := decide_eq_true c23
               have c23b1 : decide (1 < t173.length) = true := decide_eq_true (by omega)
               clear c23
               obtain ⟨bq24, hbq24⟩ : ∃ b_ : Bool, b_ = (rdOf false t173 1) := ⟨_, rfl⟩
               replace H : (if bq24 = true then (if 0 < (t173.length : Int) then (if rdOf false t173 0 = true then (none) else (if t191 = true then (if (t187 == 1 && (t188 == 1 && (t189 == 3 && (t190 == 2)))) = true then (if t198 = 23 then ((raster_At.f t178 t179 y186 1 2).bind fun t204 => (if t204 = true then ((raster_At.f t178 t179 y186 2 1).bind fun t205 => (some (!t205))) else (none))) else (none)) else (none)) else (none))) else (none)) else (none)) = some r := by rw [← hbq24] at H; exact H
               have Nbq24 := Aside0.mk hbq24
               clear hbq24
               by_cases c25 : bq24 = true
               ·subst c25
                have H1 : (if 0 < (t173.length : Int) then (if rdOf false t173 0 = true then (none) else (if t191 = true then (if (t187 == 1 && (t188 == 1 && (t189 == 3 && (t190 == 2)))) = true then (if t198 = 23 then ((raster_At.f t178 t179 y186 1 2).bind fun t204 => (if t204 = true then ((raster_At.f t178 t179 y186 2 1).bind fun t205 => (some (!t205))) else (none))) else (none)) else (none)) else (none))) else (none)) = some r := by rw [if_pos rfl] at H; exact H
                clear H
                have H := H1
                clear H1
                by_cases c26 : 0 < (t173.length : Int)
                ·rw [if_pos c26] at H
                 have c26b0 : decide (0 < (t173.length : Int)) = true := decide_eq_true c26
                 have c26b1 : decide (0 < t173.length) = true := decide_eq_true (by omega)
                 clear c26
                 obtain ⟨bq27, hbq27⟩ : ∃ b_ : Bool, b_ = (rdOf false t173 0) := ⟨_, rfl⟩
                 replace H : (if bq27 = true then (none) else (if t191 = true then (if (t187 == 1 && (t188 == 1 && (t189 == 3 && (t190 == 2)))) = true then (if t198 = 23 then ((raster_At.f t178 t179 y186 1 2).bind fun t204 => (if t204 = true then ((raster_At.f t178 t179 y186 2 1).bind fun t205 => (some (!t205))) else (none))) else (none)) else (none)) else (none))) = some r := by rw [← hbq27] at H; exact H
                 have Nbq27 := Aside0.mk hbq27
                 clear hbq27
                 by_cases c28 : bq27 = true
                 ·subst c28
                  have H1 : (none) = some r := by rw [if_pos rfl] at H; exact H
                  clear H
                  have H := H1
                  clear H1
                  exact absurd H (by simp)
                 ·replace c28 := Bool.eq_false_iff.mpr c28
                  subst c28
                  have H1 : (if t191 = true then (if (t187 == 1 && (t188 == 1 && (t189 == 3 && (t190 == 2)))) = true then (if t198 = 23 then ((raster_At.f t178 t179 y186 1 2).bind fun t204 => (if t204 = true then ((raster_At.f t178 t179 y186 2 1).bind fun t205 => (some (!t205))) else (none))) else (none)) else (none)) else (none)) = some r := by rw [if_neg (show ¬ (false = true) by decide)] at H; exact H
                  clear H
                  have H := H1
                  clear H1
                  by_cases c29 : t191 = true
                  ·subst c29
                   have H1 : (if (t187 == 1 && (t188 == 1 && (t189 == 3 && (t190 == 2)))) = true then (if t198 = 23 then ((raster_At.f t178 t179 y186 1 2).bind fun t204 => (if t204 = true then ((raster_At.f t178 t179 y186 2 1).bind fun t205 => (some (!t205))) else (none))) else (none)) else (none)) = some r := by rw [if_pos rfl] at H; exact H
                   clear H
                   have H := H1
                   clear H1
                   by_cases c30 : (t187 == 1 && (t188 == 1 && (t189 == 3 && (t190 == 2)))) = true
                   ·rw [if_pos c30] at H
                    have c30b0 : (t187 == 1 && (t188 == 1 && (t189 == 3 && (t190 == 2)))) = true := c30
                    (try (have c30b1 : decide (t187 = 1 && (t188 == 1 && (t189 == 3 && (t190 == 2)))) = true := by simpa using c30))
                    (try (have c30b2 : (t187 == 1 && (t188 == 1 && (t189 == 3 && (t190 == 2)))) = true := by simpa using c30))
                    clear c30
                    by_cases c31 : t198 = 23
                    ·rw [if_pos c31] at H
                     have c31b0 : (t198 == 23) = true := beq_iff_eq.mpr c31
                     have c31b1 : (t198 != 23) = false := bne_eq_false_iff_eq.mpr c31
                     clear c31
                     replace H := Option.bind_eq_some_iff.mp H
                     obtain ⟨t204, A320, H⟩ := H
                     replace H : (if t204 = true then ((raster_At.f t178 t179 y186 2 1).bind fun t205 => (some (!t205))) else (none)) = some r := H
                     have A32 := Aside0.mk A320
                     clear A320
                     by_cases c33 : t204 = true
                     ·subst c33
                      have H1 : ((raster_At.f t178 t179 y186 2 1).bind fun t205 => (some (!t205))) = some r := by rw [if_pos rfl] at H; exact H
                      clear H
                      have H := H1
                      clear H1
                      replace H := Option.bind_eq_some_iff.mp H
                      obtain ⟨t205, A340, H⟩ := H
                      replace H : (some (!t205)) = some r := H
                      have A34 := Aside0.mk A340
                      clear A340
                      obtain rfl := Option.some.inj H
                      go_enter Try.func13, Try.ntmps13
                      go_wp2_with (first | ((with_reducible refine gate_dst (N := 12) rfl ?_); (try (refine gate_guard (by rfl) ?_; dsimp only)); refine Kd.R_lit Kd.bool _ 4 ?hg (N := 12) ?hd (xs := ([true, false] : List Bool)) (inner := [.bool true, .bool false]) (ok := fun _ => True) (okp := fun _ => True) ?hr ?hp (fun _ hk => hk) trivial (Below.refl _ _) (Nat.le_refl _) (by simp) ?_; (case hd => rfl); (case hg => rfl); (case hr => first | (go_simp; done) | (go_simp; rfl)); (case hp => exact (Reps.one (show Kd.M Kd.bool _ _ _ true [.bool true] from rfl) (Reps.one (show Kd.M Kd.bool _ _ _ false [.bool false] from rfl) (Reps.none _ _)))); intro v159 w35 ho36 hb hg_ hnew_; clear hg_ hnew_; (first | rw [← Ny158.out] at ho36 | (simp only [Int.reduceToNat] at ho36; rw [← Ny158.out] at ho36)); have n0_ := Aside0.mk (Kd.R_lower ho36 (below_size (hb0 HB))); have n1_ := Aside0.mk (below_step (hb0 HB) hb); clear HB; have HO160 := n0_; have HB := n1_; clear n0_ n1_; clear hb ho36; obtain ⟨Ao37, co37, eo37⟩ := Kd.R_slice HO160.out; subst eo37) | ((with_reducible refine gate_callee (f := 24) rfl ?_); refine goesL_ (some 14) rfl rfl Try.func24 (by kernel_rfl) rfl #[.agg #[.int .i64 2, .int .i64 1, .slice Ao37 y158.length co37], .int .i64 1] rfl mapx ?_; (with_reducible refine (raster_Turn.calls k 2 1 _ _ y158 1 t161 t162 t163 t166 _ ?side1 ?side2 A1.out).mono ?_); (case side1 => repeat (first | exact (Kd.R_reads' HO160.out).2.2 | (with_reducible refine Kd.C_alloc ?_ _) | (with_reducible refine Kd.C_drewN ?_ _) | (with_reducible refine Kd.C_drew ?_))); (case side2 => exact (Kd.R_reads' HO160.out).2.1); rintro e w38 ⟨v164, rfl, ho0, hb⟩; refine ⟨_, rfl, ?_⟩; have n0_ := Aside0.mk (Kd.R_elder' (rkx HO160) (Kd.R_base ho0) hb); have n1_ := Aside0.mk (Kd.R_lower (Kd.R_new' ho0 (Kd.R_lt (rkx HO160))) (below_size (hb0 HB))); have n2_ := Aside0.mk (below_step (hb0 HB) hb); clear HO160; clear HB; have HO160 := n0_; have HO165 := n1_; have HB := n2_; clear n0_ n1_ n2_; (try clear hb); (try clear hb2); (try clear hk); (try clear hi); (try clear ho0)) | ((with_reducible refine gate_dst (N := 1) rfl ?_); (try (refine gate_guard (by rfl) ?_; dsimp only)); refine box_event ?hg (N := 1) ?hd (cs := #[.int .i64 0, .int .i64 0, .slice none 0 0]) (t := 24) ?hr ?_; (case hd => rfl); (case hg => rfl); (case hr => first | (go_simp; done) | (go_simp; rfl)); intro gb167 hg w39 hbox hb; have n0_ := Aside0.mk (Kd.R_below (rkx HO160) hb); have n1_ := Aside0.mk (Kd.R_below (rkx HO165) hb); have n2_ := Aside0.mk (below_step (hb0 HB) hb); have n3_ := Aside0.mk (hbox); have n4_ := Aside0.mk ((by rw [hg]; exact (below_size (hb0 HB)) : w.heap.size ≤ gb167)); have n5_ := Aside0.mk ((by rw [hg]; exact (below_size (hb0 HB)) : w.heap.size ≤ gb167)); clear HO160; clear HO165; clear HB; have HO160 := n0_; have HO165 := n1_; have HB := n2_; have BK167 := n3_; have GW167 := n4_; have GE167 := n5_; clear n0_ n1_ n2_ n3_ n4_ n5_; clear hb hbox hg; have hcz40_0 : w39.cell? ⟨gb167, 0, none⟩ = some (.int .i64 0) := (blk_cell BK167.out 0).trans rfl; have hcz40_1 : w39.cell? ⟨gb167, 1, none⟩ = some (.int .i64 0) := (blk_cell BK167.out 1).trans rfl; have hcz40_2 : w39.cell? ⟨gb167, 2, none⟩ = some (.slice none 0 0) := (blk_cell BK167.out 2).trans rfl; have hfz40_0 := blk_frozen BK167.out 0; have hfz40_1 := blk_frozen BK167.out 1; have hfz40_2 := blk_frozen BK167.out 2; obtain ⟨Ao41, co41, eo41⟩ := Kd.R_slice HO165.out; subst eo41) | ((with_reducible refine gate_dst (N := 18) rfl ?_); (try (refine gate_guard (by rfl) ?_; dsimp only)); refine Kd.R_lit Kd.bool _ 4 ?hg (N := 18) ?hd (xs := ([true] : List Bool)) (inner := [.bool true]) (ok := fun _ => True) (okp := fun _ => True) ?hr ?hp (fun _ hk => hk) trivial (Below.refl _ _) (Nat.le_refl _) (by simp) ?_; (case hd => rfl); (case hg => rfl); (case hr => first | (go_simp; done) | (go_simp; rfl)); (case hp => exact (Reps.one (show Kd.M Kd.bool _ _ _ true [.bool true] from rfl) (Reps.none _ _))); intro v169 w42 ho43 hb hg_ hnew_; clear hg_ hnew_; (first | rw [← Ny168.out] at ho43 | (simp only [Int.reduceToNat] at ho43; rw [← Ny168.out] at ho43)); have n0_ := Aside0.mk (Kd.R_elder' (by refine rkt ?_; exact (far3 HO160 BK167)) (Kd.R_base ho43) hb); have n1_ := Aside0.mk (Kd.R_elder' (by refine rkt ?_; exact (far3 HO165 BK167)) (Kd.R_base ho43) hb); have n2_ := Aside0.mk (Kd.R_lower (Kd.R_new' (Kd.R_new' ho43 (Kd.R_lt (by refine rkt ?_; exact (far3 HO160 BK167)))) (Kd.R_lt (by refine rkt ?_; exact (far3 HO165 BK167)))) (below_size (hb1 HB GE167))); have n3_ := Aside0.mk (blk_below (g := gb167) (o := .cells #[.int .i64 t161, .int .i64 t162, .slice Ao41 t163.length co41] 24 (0, 0)) (by refine bkt ?_; refine blk_put (cs := #[.int .i64 t161, .int .i64 t162, .slice none 0 0]) ?_ 2 _ rfl; refine bkt ?_; refine blk_put (cs := #[.int .i64 t161, .int .i64 0, .slice none 0 0]) ?_ 1 _ rfl; refine bkt ?_; refine blk_put (cs := #[.int .i64 0, .int .i64 0, .slice none 0 0]) ?_ 0 _ rfl; refine bkt ?_; exact BK167.out) hb); have n4_ := Aside0.mk (below_step (hb1 HB GE167) hb); clear HO160; clear HO165; clear BK167; clear HB; have HO160 := n0_; have HO165 := n1_; have HO170 := n2_; have BK167 := n3_; have HB := n4_; clear n0_ n1_ n2_ n3_ n4_; clear hb ho43; obtain ⟨Ao44, co44, eo44⟩ := Kd.R_slice HO170.out; subst eo44) | ((with_reducible refine gate_callee (f := 14) rfl ?_); refine goesL_ (some 21) rfl rfl Try.func14 (by kernel_rfl) rfl #[.agg #[.int .i64 1, .int .i64 1, .slice Ao44 y168.length co44], .agg #[.int .i64 (-1), .int .i64 0, .int .i64 3, .int .i64 1]] rfl mapx ?_; (with_reducible refine (raster_Crop.calls k 1 1 _ _ y168 (-1) 0 3 1 t171 t172 t173 t176 _ ?side1 ?side2 A2.out).mono ?_); (case side1 => repeat (first | exact (Kd.R_reads' HO170.out).2.2 | (with_reducible refine Kd.C_alloc ?_ _) | (with_reducible refine Kd.C_drewN ?_ _) | (with_reducible refine Kd.C_drew ?_))); (case side2 => exact (Kd.R_reads' HO170.out).2.1); rintro e w45 ⟨v174, rfl, ho0, hb⟩; refine ⟨_, rfl, ?_⟩; have n0_ := Aside0.mk (Kd.R_elder' (rkx HO160) (Kd.R_base ho0) hb); have n1_ := Aside0.mk (Kd.R_elder' (rkx HO165) (Kd.R_base ho0) hb); have n2_ := Aside0.mk (Kd.R_elder' (rkx HO170) (Kd.R_base ho0) hb); have n3_ := Aside0.mk (Kd.R_lower (Kd.R_new' (Kd.R_new' (Kd.R_new' ho0 (Kd.R_lt (rkx HO160))) (Kd.R_lt (rkx HO165))) (Kd.R_lt (rkx HO170))) (below_size (hb1 HB GE167))); have n4_ := Aside0.mk (blk_below (bkx BK167) hb); have n5_ := Aside0.mk (below_step (hb1 HB GE167) hb); clear HO160; clear HO165; clear HO170; clear BK167; clear HB; have HO160 := n0_; have HO165 := n1_; have HO170 := n2_; have HO175 := n3_; have BK167 := n4_; have HB := n5_; clear n0_ n1_ n2_ n3_ n4_ n5_; (try clear hb); (try clear hb2); (try clear hk); (try clear hi); (try clear ho0)) | ((with_reducible refine gate_dst (N := 3) rfl ?_); (try (refine gate_guard (by rfl) ?_; dsimp only)); refine box_event ?hg (N := 3) ?hd (cs := #[.int .i64 0, .int .i64 0, .slice none 0 0]) (t := 24) ?hr ?_; (case hd => rfl); (case hg => rfl); (case hr => first | (go_simp; done) | (go_simp; rfl)); intro gb177 hg w46 hbox hb; have n0_ := Aside0.mk (Kd.R_below (rkx HO160) hb); have n1_ := Aside0.mk (Kd.R_below (rkx HO165) hb); have n2_ := Aside0.mk (Kd.R_below (rkx HO170) hb); have n3_ := Aside0.mk (Kd.R_below (rkx HO175) hb); have n4_ := Aside0.mk (blk_below (bkx BK167) hb); have n5_ := Aside0.mk (below_step (hb1 HB GE167) hb); have n6_ := Aside0.mk (hbox); have n7_ := Aside0.mk ((by rw [hg]; exact (below_size (hb1 HB GE167)) : w.heap.size ≤ gb177)); have n8_ := Aside0.mk ((by rw [hg]; exact (below_size (hb1 HB GE167)) : w.heap.size ≤ gb177)); have n9_ := Aside0.mk (nel hg BK167 : gb167 ≠ gb177); have n10_ := Aside0.mk (neg hg BK167 : gb177 ≠ gb167); clear HO160; clear HO165; clear HO170; clear HO175; clear BK167; clear HB; have HO160 := n0_; have HO165 := n1_; have HO170 := n2_; have HO175 := n3_; have BK167 := n4_; have HB := n5_; have BK177 := n6_; have GW177 := n7_; have GE177 := n8_; have NB167_177 := n9_; have NB177_167 := n10_; clear n0_ n1_ n2_ n3_ n4_ n5_ n6_ n7_ n8_ n9_ n10_; clear hb hbox hg; have hnb47 := NB177_167.out; have hnc47 := NB167_177.out; have hcz48_0 : w46.cell? ⟨gb177, 0, none⟩ = some (.int .i64 0) := (blk_cell BK177.out 0).trans rfl; have hcz48_1 : w46.cell? ⟨gb177, 1, none⟩ = some (.int .i64 0) := (blk_cell BK177.out 1).trans rfl; have hcz48_2 : w46.cell? ⟨gb177, 2, none⟩ = some (.slice none 0 0) := (blk_cell BK177.out 2).trans rfl; have hfz48_0 := blk_frozen BK177.out 0; have hfz48_1 := blk_frozen BK177.out 1; have hfz48_2 := blk_frozen BK177.out 2; obtain ⟨Ao49, co49, eo49⟩ := Kd.R_slice HO175.out; subst eo49) | ((with_reducible refine gate_callee (f := 29) rfl ?_); refine goesL_ (some 25) rfl rfl Try.func29 (by kernel_rfl) rfl #[.int .i64 5, .int .i64 4] rfl mapx ?_; (with_reducible refine (raster_New.calls 5 4 t178 t179 t180 t183 _ A3.out).mono ?_); rintro e w50 ⟨v181, rfl, ho0, hb⟩; refine ⟨_, rfl, ?_⟩; have n0_ := Aside0.mk (Kd.R_elder' (by refine rkt ?_; exact (far3 HO160 BK177)) (Kd.R_base ho0) hb); have n1_ := Aside0.mk (Kd.R_elder' (by refine rkt ?_; exact (far3 HO165 BK177)) (Kd.R_base ho0) hb); have n2_ := Aside0.mk (Kd.R_elder' (by refine rkt ?_; exact (far3 HO170 BK177)) (Kd.R_base ho0) hb); have n3_ := Aside0.mk (Kd.R_elder' (by refine rkt ?_; exact (far3 HO175 BK177)) (Kd.R_base ho0) hb); have n4_ := Aside0.mk (Kd.R_lower (Kd.R_new' (Kd.R_new' (Kd.R_new' (Kd.R_new' ho0 (Kd.R_lt (by refine rkt ?_; exact (far3 HO160 BK177)))) (Kd.R_lt (by refine rkt ?_; exact (far3 HO165 BK177)))) (Kd.R_lt (by refine rkt ?_; exact (far3 HO170 BK177)))) (Kd.R_lt (by refine rkt ?_; exact (far3 HO175 BK177)))) (below_size (hb2 HB GE167 GE177))); have n5_ := Aside0.mk (blk_below (g := gb167) (o := .cells #[.int .i64 t161, .int .i64 t162, .slice Ao41 t163.length co41] 24 (0, 0)) (bky BK167 NB167_177) hb); have n6_ := Aside0.mk (blk_below (g := gb177) (o := .cells #[.int .i64 t171, .int .i64 t172, .slice Ao49 t173.length co49] 24 (0, 0)) (by refine bkt ?_; refine blk_put (cs := #[.int .i64 t171, .int .i64 t172, .slice none 0 0]) ?_ 2 _ rfl; refine bkt ?_; refine blk_put (cs := #[.int .i64 t171, .int .i64 0, .slice none 0 0]) ?_ 1 _ rfl; refine bkt ?_; refine blk_put (cs := #[.int .i64 0, .int .i64 0, .slice none 0 0]) ?_ 0 _ rfl; refine bkt ?_; exact BK177.out) hb); have n7_ := Aside0.mk (below_step (hb2 HB GE167 GE177) hb); clear HO160; clear HO165; clear HO170; clear HO175; clear BK167; clear BK177; clear HB; have HO160 := n0_; have HO165 := n1_; have HO170 := n2_; have HO175 := n3_; have HO182 := n4_; have BK167 := n5_; have BK177 := n6_; have HB := n7_; clear n0_ n1_ n2_ n3_ n4_ n5_ n6_ n7_; (try clear hb); (try clear hb2); (try clear hk); (try clear hi); (try clear ho0)) | ((with_reducible refine gate_dst (N := 5) rfl ?_); (try (refine gate_guard (by rfl) ?_; dsimp only)); refine box_event ?hg (N := 5) ?hd (cs := #[.int .i64 0, .int .i64 0, .slice none 0 0]) (t := 24) ?hr ?_; (case hd => rfl); (case hg => rfl); (case hr => first | (go_simp; done) | (go_simp; rfl)); intro gb184 hg w51 hbox hb; have n0_ := Aside0.mk (Kd.R_below (rkx HO160) hb); have n1_ := Aside0.mk (Kd.R_below (rkx HO165) hb); have n2_ := Aside0.mk (Kd.R_below (rkx HO170) hb); have n3_ := Aside0.mk (Kd.R_below (rkx HO175) hb); have n4_ := Aside0.mk (Kd.R_below (rkx HO182) hb); have n5_ := Aside0.mk (blk_below (bkx BK167) hb); have n6_ := Aside0.mk (blk_below (bkx BK177) hb); have n7_ := Aside0.mk (below_step (hb2 HB GE167 GE177) hb); have n8_ := Aside0.mk (hbox); have n9_ := Aside0.mk ((by rw [hg]; exact (below_size (hb2 HB GE167 GE177)) : w.heap.size ≤ gb184)); have n10_ := Aside0.mk ((by rw [hg]; exact (below_size (hb2 HB GE167 GE177)) : w.heap.size ≤ gb184)); have n11_ := Aside0.mk (nel hg BK167 : gb167 ≠ gb184); have n12_ := Aside0.mk (neg hg BK167 : gb184 ≠ gb167); have n13_ := Aside0.mk (nel hg BK177 : gb177 ≠ gb184); have n14_ := Aside0.mk (neg hg BK177 : gb184 ≠ gb177); clear HO160; clear HO165; clear HO170; clear HO175; clear HO182; clear BK167; clear BK177; clear HB; have HO160 := n0_; have HO165 := n1_; have HO170 := n2_; have HO175 := n3_; have HO182 := n4_; have BK167 := n5_; have BK177 := n6_; have HB := n7_; have BK184 := n8_; have GW184 := n9_; have GE184 := n10_; have NB167_184 := n11_; have NB184_167 := n12_; have NB177_184 := n13_; have NB184_177 := n14_; clear n0_ n1_ n2_ n3_ n4_ n5_ n6_ n7_ n8_ n9_ n10_ n11_ n12_ n13_ n14_; clear hb hbox hg; have hnb52 := NB184_167.out; have hnc52 := NB167_184.out; have hnb53 := NB184_177.out; have hnc53 := NB177_184.out; have hcz54_0 : w51.cell? ⟨gb184, 0, none⟩ = some (.int .i64 0) := (blk_cell BK184.out 0).trans rfl; have hcz54_1 : w51.cell? ⟨gb184, 1, none⟩ = some (.int .i64 0) := (blk_cell BK184.out 1).trans rfl; have hcz54_2 : w51.cell? ⟨gb184, 2, none⟩ = some (.slice none 0 0) := (blk_cell BK184.out 2).trans rfl; have hfz54_0 := blk_frozen BK184.out 0; have hfz54_1 := blk_frozen BK184.out 1; have hfz54_2 := blk_frozen BK184.out 2; obtain ⟨Ao55, co55, eo55⟩ := Kd.R_slice HO182.out; subst eo55) | ((with_reducible refine gate_store (t := 24) (p := 5) rfl ?_); refine store_event (t := 24) (p := 5) (v := ?vo_w56) (w1 := (((w51.setCell ⟨gb184, 0, none⟩ (.int .i64 t178)).setCell ⟨gb184, 1, none⟩ (.int .i64 t179)).setCell ⟨gb184, 2, none⟩ (.slice Ao55 t180.length co55))) ?hg ?ho ?hn ?hr ?_; (case ho => rfl); (case hg => rfl); (case hn => rfl); (case hr => first | (go_simp; done) | (go_simp; rfl)); intro w56 hw; have n0_ : Aside0 (Kd.R Kd.bool 4 w56 w.heap.size (fun k_ => some k_ ≠ (.slice Ao41 t163.length co41 : Value).ownBlock ∧ some k_ ≠ (.slice Ao44 y168.length co44 : Value).ownBlock ∧ some k_ ≠ (.slice Ao49 t173.length co49 : Value).ownBlock ∧ some k_ ≠ (.slice Ao55 t180.length co55 : Value).ownBlock) (.slice Ao37 y158.length co37) y158) := ⟨(by rw [hw]; exact (by refine rkt ?_; exact Kd.R_mono (Kd.R_far (p := ⟨gb184, 2, none⟩) (Kd.R_far (p := ⟨gb184, 1, none⟩) (Kd.R_far (p := ⟨gb184, 0, none⟩) (Kd.R_types HO160.out BK184.out (by decide)) (fun _ hk => hk.2) (.int .i64 t178)) (fun _ hk => hk.2) (.int .i64 t179)) (fun _ hk => hk.2) (.slice Ao55 t180.length co55)) (fun _ hk => ⟨hk.1.1.1.1.2, ⟨hk.1.1.1.2, ⟨hk.1.1.2, hk.1.2⟩⟩⟩)))⟩; have n1_ : Aside0 (Kd.R Kd.bool 4 w56 w.heap.size (fun k_ => some k_ ≠ (.slice Ao37 y158.length co37 : Value).ownBlock ∧ some k_ ≠ (.slice Ao44 y168.length co44 : Value).ownBlock ∧ some k_ ≠ (.slice Ao49 t173.length co49 : Value).ownBlock ∧ some k_ ≠ (.slice Ao55 t180.length co55 : Value).ownBlock) (.slice Ao41 t163.length co41) t163) := ⟨(by rw [hw]; exact (by refine rkt ?_; exact Kd.R_mono (Kd.R_far (p := ⟨gb184, 2, none⟩) (Kd.R_far (p := ⟨gb184, 1, none⟩) (Kd.R_far (p := ⟨gb184, 0, none⟩) (Kd.R_types HO165.out BK184.out (by decide)) (fun _ hk => hk.2) (.int .i64 t178)) (fun _ hk => hk.2) (.int .i64 t179)) (fun _ hk => hk.2) (.slice Ao55 t180.length co55)) (fun _ hk => ⟨hk.1.1.1.1.2, ⟨hk.1.1.1.2, ⟨hk.1.1.2, hk.1.2⟩⟩⟩)))⟩; have n2_ : Aside0 (Kd.R Kd.bool 4 w56 w.heap.size (fun k_ => some k_ ≠ (.slice Ao37 y158.length co37 : Value).ownBlock ∧ some k_ ≠ (.slice Ao41 t163.length co41 : Value).ownBlock ∧ some k_ ≠ (.slice Ao49 t173.length co49 : Value).ownBlock ∧ some k_ ≠ (.slice Ao55 t180.length co55 : Value).ownBlock) (.slice Ao44 y168.length co44) y168) := ⟨(by rw [hw]; exact (by refine rkt ?_; exact Kd.R_mono (Kd.R_far (p := ⟨gb184, 2, none⟩) (Kd.R_far (p := ⟨gb184, 1, none⟩) (Kd.R_far (p := ⟨gb184, 0, none⟩) (Kd.R_types HO170.out BK184.out (by decide)) (fun _ hk => hk.2) (.int .i64 t178)) (fun _ hk => hk.2) (.int .i64 t179)) (fun _ hk => hk.2) (.slice Ao55 t180.length co55)) (fun _ hk => ⟨hk.1.1.1.1.2, ⟨hk.1.1.1.2, ⟨hk.1.1.2, hk.1.2⟩⟩⟩)))⟩; have n3_ : Aside0 (Kd.R Kd.bool 4 w56 w.heap.size (fun k_ => some k_ ≠ (.slice Ao37 y158.length co37 : Value).ownBlock ∧ some k_ ≠ (.slice Ao41 t163.length co41 : Value).ownBlock ∧ some k_ ≠ (.slice Ao44 y168.length co44 : Value).ownBlock ∧ some k_ ≠ (.slice Ao55 t180.length co55 : Value).ownBlock) (.slice Ao49 t173.length co49) t173) := ⟨(by rw [hw]; exact (by refine rkt ?_; exact Kd.R_mono (Kd.R_far (p := ⟨gb184, 2, none⟩) (Kd.R_far (p := ⟨gb184, 1, none⟩) (Kd.R_far (p := ⟨gb184, 0, none⟩) (Kd.R_types HO175.out BK184.out (by decide)) (fun _ hk => hk.2) (.int .i64 t178)) (fun _ hk => hk.2) (.int .i64 t179)) (fun _ hk => hk.2) (.slice Ao55 t180.length co55)) (fun _ hk => ⟨hk.1.1.1.1.2, ⟨hk.1.1.1.2, ⟨hk.1.1.2, hk.1.2⟩⟩⟩)))⟩; have n4_ : Aside0 (Kd.R Kd.bool 4 w56 w.heap.size (fun k_ => some k_ ≠ (.slice Ao37 y158.length co37 : Value).ownBlock ∧ some k_ ≠ (.slice Ao41 t163.length co41 : Value).ownBlock ∧ some k_ ≠ (.slice Ao44 y168.length co44 : Value).ownBlock ∧ some k_ ≠ (.slice Ao49 t173.length co49 : Value).ownBlock) (.slice Ao55 t180.length co55) t180) := ⟨(by rw [hw]; exact (by refine rkt ?_; exact Kd.R_mono (Kd.R_far (p := ⟨gb184, 2, none⟩) (Kd.R_far (p := ⟨gb184, 1, none⟩) (Kd.R_far (p := ⟨gb184, 0, none⟩) (Kd.R_types HO182.out BK184.out (by decide)) (fun _ hk => hk.2) (.int .i64 t178)) (fun _ hk => hk.2) (.int .i64 t179)) (fun _ hk => hk.2) (.slice Ao55 t180.length co55)) (fun _ hk => ⟨hk.1.1.1.1.2, ⟨hk.1.1.1.2, ⟨hk.1.1.2, hk.1.2⟩⟩⟩)))⟩; have n5_ : Aside0 (w56.heap[gb167]? = some (.cells #[.int .i64 t161, .int .i64 t162, .slice Ao41 t163.length co41] 24 (0, 0))) := ⟨(by rw [hw]; exact (bky BK167 NB167_184))⟩; have n6_ : Aside0 (w56.heap[gb177]? = some (.cells #[.int .i64 t171, .int .i64 t172, .slice Ao49 t173.length co49] 24 (0, 0))) := ⟨(by rw [hw]; exact (bky BK177 NB177_184))⟩; have n7_ : Aside0 (w56.heap[gb184]? = some (.cells #[.int .i64 t178, .int .i64 t179, .slice Ao55 t180.length co55] 24 (0, 0))) := ⟨(by rw [hw]; exact (by refine bkt ?_; refine blk_put (cs := #[.int .i64 t178, .int .i64 t179, .slice none 0 0]) ?_ 2 _ rfl; refine bkt ?_; refine blk_put (cs := #[.int .i64 t178, .int .i64 0, .slice none 0 0]) ?_ 1 _ rfl; refine bkt ?_; refine blk_put (cs := #[.int .i64 0, .int .i64 0, .slice none 0 0]) ?_ 0 _ rfl; refine bkt ?_; exact BK184.out))⟩; have n8_ : Aside0 (Below w.heap.size w w56) := ⟨(by rw [hw]; exact (hb3 HB GE167 GE177 GE184))⟩; clear hw; clear HO160; clear HO165; clear HO170; clear HO175; clear HO182; clear BK167; clear BK177; clear BK184; clear HB; have HO160 := n0_; have HO165 := n1_; have HO170 := n2_; have HO175 := n3_; have HO182 := n4_; have BK167 := n5_; have BK177 := n6_; have BK184 := n7_; have HB := n8_; clear n0_ n1_ n2_ n3_ n4_ n5_ n6_ n7_ n8_; have hcz57_0 : w56.cell? ⟨gb184, 0, none⟩ = some (.int .i64 t178) := (blk_cell BK184.out 0).trans rfl; have hcz57_1 : w56.cell? ⟨gb184, 1, none⟩ = some (.int .i64 t179) := (blk_cell BK184.out 1).trans rfl; have hcz57_2 : w56.cell? ⟨gb184, 2, none⟩ = some (.slice Ao55 t180.length co55) := (blk_cell BK184.out 2).trans rfl; have hfz57_0 := blk_frozen BK184.out 0; have hfz57_1 := blk_frozen BK184.out 1; have hfz57_2 := blk_frozen BK184.out 2; have hcz58_0 : w56.cell? ⟨gb167, 0, none⟩ = some (.int .i64 t161) := (blk_cell BK167.out 0).trans rfl; have hcz58_1 : w56.cell? ⟨gb167, 1, none⟩ = some (.int .i64 t162) := (blk_cell BK167.out 1).trans rfl; have hcz58_2 : w56.cell? ⟨gb167, 2, none⟩ = some (.slice Ao41 t163.length co41) := (blk_cell BK167.out 2).trans rfl; have hfz58_0 := blk_frozen BK167.out 0; have hfz58_1 := blk_frozen BK167.out 1; have hfz58_2 := blk_frozen BK167.out 2; have hcz59_0 : w56.cell? ⟨gb177, 0, none⟩ = some (.int .i64 t171) := (blk_cell BK177.out 0).trans rfl; have hcz59_1 : w56.cell? ⟨gb177, 1, none⟩ = some (.int .i64 t172) := (blk_cell BK177.out 1).trans rfl; have hcz59_2 : w56.cell? ⟨gb177, 2, none⟩ = some (.slice Ao49 t173.length co49) := (blk_cell BK177.out 2).trans rfl; have hfz59_0 := blk_frozen BK177.out 0; have hfz59_1 := blk_frozen BK177.out 1; have hfz59_2 := blk_frozen BK177.out 2; have p12 : 0 ≤ (11 : Int) := (by omega); have q12 : (11 : Int) < ((t180.length : Int) : Int) := of_decide_eq_true (by first | (with_reducible assumption) | assumption); have qi12 : (11 < t180.length) = True := eq_true (by omega); obtain ⟨go12, co12, eo12, gb12, gl12, cl12, HG12⟩ := Kd.R_form HO182.out (by omega); (first | cases eo12 | (injection eo12 with ea_ en_ ec_; (first | subst ea_ | (injection ea_ with ea_; subst ea_)); subst ec_; clear en_)); have GB12 := Aside0.mk gb12; have GG12 := Aside0.mk HG12; clear gb12 gl12 HG12; obtain ⟨hx12_0, hf12_0⟩ := Kd.R_celln false HO182.out (11 : Int) p12 q12; (try rw [show ((11 : Int)).toNat = 11 from rfl] at hx12_0); (try simp only [Nat.reduceMul, Nat.zero_mul, Nat.zero_add, Nat.reduceAdd] at hx12_0); (try rw [show ((11 : Int)).toNat = 11 from rfl] at hf12_0); (try simp only [Nat.reduceMul, Nat.zero_mul, Nat.zero_add, Nat.reduceAdd] at hf12_0); replace p12 := eq_true p12; replace q12 := eq_true q12; obtain ⟨hy60_, hz60_⟩ := Kd.R_celln false HO182.out (11 : Int) (by omega) (of_decide_eq_true (by first | (with_reducible assumption) | assumption)); (try simp only [Int.reduceToNat, Int.toNat_zero, Int.toNat_ofNat, Nat.reduceMul, Nat.zero_mul, Nat.zero_add] at hy60_ hz60_); (try rw [show ((11 : Int)).toNat = 11 from rfl] at hy60_); (try rw [show ((11 : Int)).toNat = 11 from rfl] at hz60_); have HP60 := Kd.R_putg HO182.out (11 : Int) true) | ((with_reducible refine gate_store (t := 4) (p := 63) rfl ?_); refine store_event (t := 4) (p := 63) (v := ?vo_w61) (w1 := (w56.setCell ⟨go12, (11 : Int).toNat, none⟩ (.bool true))) ?hg ?ho ?hn ?hr ?_; (case ho => rfl); (case hg => rfl); (case hn => rfl); (case hr => first | (go_simp; done) | (go_simp; rfl)); intro w61 hw; have hg : w56.grownBy w61 (some go12) := (by rw [hw]; exact HP60.2); have hp_ : Kd.R Kd.bool 4 w61 w.heap.size (fun k_ => some k_ ≠ (.slice Ao37 y158.length co37 : Value).ownBlock ∧ some k_ ≠ (.slice Ao41 t163.length co41 : Value).ownBlock ∧ some k_ ≠ (.slice Ao44 y168.length co44 : Value).ownBlock ∧ some k_ ≠ (.slice Ao49 t173.length co49 : Value).ownBlock) (.slice (some ⟨go12, 0, none⟩) t180.length co55) y185 := (by rw [hw, Ny185.out]; exact HP60.1); clear HP60; have n0_ := Aside0.mk (Kd.R_after (v := (.slice (some ⟨go12, 0, none⟩) t180.length co55)) (v1 := (.slice (some ⟨go12, 0, none⟩) t180.length co55)) (ok := (fun k_ => some k_ ≠ (.slice Ao41 t163.length co41 : Value).ownBlock ∧ some k_ ≠ (.slice Ao44 y168.length co44 : Value).ownBlock ∧ some k_ ≠ (.slice Ao49 t173.length co49 : Value).ownBlock)) (by refine rkt ?_; exact Kd.R_mono HO160.out (fun _ hk => ⟨⟨hk.1, ⟨hk.2.1, hk.2.2.1⟩⟩, hk.2.2.2⟩)) hg (.inl rfl)); have n1_ := Aside0.mk (Kd.R_after (v := (.slice (some ⟨go12, 0, none⟩) t180.length co55)) (v1 := (.slice (some ⟨go12, 0, none⟩) t180.length co55)) (ok := (fun k_ => some k_ ≠ (.slice Ao37 y158.length co37 : Value).ownBlock ∧ some k_ ≠ (.slice Ao44 y168.length co44 : Value).ownBlock ∧ some k_ ≠ (.slice Ao49 t173.length co49 : Value).ownBlock)) (by refine rkt ?_; exact Kd.R_mono HO165.out (fun _ hk => ⟨⟨hk.1, ⟨hk.2.1, hk.2.2.1⟩⟩, hk.2.2.2⟩)) hg (.inl rfl)); have n2_ := Aside0.mk (blk_grown (g := gb167) (o := .cells #[.int .i64 t161, .int .i64 t162, .slice Ao41 t163.length co41] 24 (0, 0)) (bkx BK167) hg (Kd.R_ne HO182.out BK167.out (by decide))); have n3_ := Aside0.mk (Kd.R_after (v := (.slice (some ⟨go12, 0, none⟩) t180.length co55)) (v1 := (.slice (some ⟨go12, 0, none⟩) t180.length co55)) (ok := (fun k_ => some k_ ≠ (.slice Ao37 y158.length co37 : Value).ownBlock ∧ some k_ ≠ (.slice Ao41 t163.length co41 : Value).ownBlock ∧ some k_ ≠ (.slice Ao49 t173.length co49 : Value).ownBlock)) (by refine rkt ?_; exact Kd.R_mono HO170.out (fun _ hk => ⟨⟨hk.1, ⟨hk.2.1, hk.2.2.1⟩⟩, hk.2.2.2⟩)) hg (.inl rfl)); have n4_ := Aside0.mk (Kd.R_after (v := (.slice (some ⟨go12, 0, none⟩) t180.length co55)) (v1 := (.slice (some ⟨go12, 0, none⟩) t180.length co55)) (ok := (fun k_ => some k_ ≠ (.slice Ao37 y158.length co37 : Value).ownBlock ∧ some k_ ≠ (.slice Ao41 t163.length co41 : Value).ownBlock ∧ some k_ ≠ (.slice Ao44 y168.length co44 : Value).ownBlock)) (by refine rkt ?_; exact Kd.R_mono HO175.out (fun _ hk => ⟨⟨hk.1, ⟨hk.2.1, hk.2.2.1⟩⟩, hk.2.2.2⟩)) hg (.inl rfl)); have n5_ := Aside0.mk (blk_grown (g := gb177) (o := .cells #[.int .i64 t171, .int .i64 t172, .slice Ao49 t173.length co49] 24 (0, 0)) (bkx BK177) hg (Kd.R_ne HO182.out BK177.out (by decide))); have n6_ := Aside0.mk (hp_); have n7_ := Aside0.mk (blk_grown (g := gb184) (o := .cells #[.int .i64 t178, .int .i64 t179, .slice (some ⟨go12, 0, none⟩) t180.length co55] 24 (0, 0)) (bkx BK184) hg (Kd.R_ne HO182.out BK184.out (by decide))); have n8_ := Aside0.mk ((by rw [hw]; exact below_set (HB.out) GB12.out : Below w.heap.size w w61)); clear HO160; clear HO165; clear BK167; clear HO170; clear HO175; clear BK177; clear HO182; clear BK184; clear HB; have HO160 := n0_; have HO165 := n1_; have BK167 := n2_; have HO170 := n3_; have HO175 := n4_; have BK177 := n5_; have HO182 := n6_; have BK184 := n7_; have HB := n8_; clear n0_ n1_ n2_ n3_ n4_ n5_ n6_ n7_ n8_; clear hg hw hp_; have hcz62_0 : w61.cell? ⟨gb184, 0, none⟩ = some (.int .i64 t178) := (blk_cell BK184.out 0).trans rfl; have hcz62_1 : w61.cell? ⟨gb184, 1, none⟩ = some (.int .i64 t179) := (blk_cell BK184.out 1).trans rfl; have hcz62_2 : w61.cell? ⟨gb184, 2, none⟩ = some (.slice (some ⟨go12, 0, none⟩) t180.length co55) := (blk_cell BK184.out 2).trans rfl; have hfz62_0 := blk_frozen BK184.out 0; have hfz62_1 := blk_frozen BK184.out 1; have hfz62_2 := blk_frozen BK184.out 2; have p14 : 0 ≤ (8 : Int) := (by omega); have q14 : (8 : Int) < ((t180.length : Int) : Int) := of_decide_eq_true (by first | (with_reducible assumption) | assumption); have qi14 : (8 < t180.length) = True := eq_true (by omega); obtain ⟨hx14_0, hf14_0⟩ := Kd.R_celln false HO182.out (8 : Int) p14 q14; (try rw [show ((8 : Int)).toNat = 8 from rfl] at hx14_0); (try simp only [Nat.reduceMul, Nat.zero_mul, Nat.zero_add, Nat.reduceAdd] at hx14_0); (try rw [show ((8 : Int)).toNat = 8 from rfl] at hf14_0); (try simp only [Nat.reduceMul, Nat.zero_mul, Nat.zero_add, Nat.reduceAdd] at hf14_0); replace p14 := eq_true p14; replace q14 := eq_true q14; obtain ⟨hy63_, hz63_⟩ := Kd.R_celln false HO182.out (8 : Int) (by omega) (of_decide_eq_true (by first | (with_reducible assumption) | assumption)); (try simp only [Int.reduceToNat, Int.toNat_zero, Int.toNat_ofNat, Nat.reduceMul, Nat.zero_mul, Nat.zero_add] at hy63_ hz63_); (try rw [show ((8 : Int)).toNat = 8 from rfl] at hy63_); (try rw [show ((8 : Int)).toNat = 8 from rfl] at hz63_); have HP63 := Kd.R_putg HO182.out (8 : Int) true) | ((with_reducible refine gate_store (t := 4) (p := 66) rfl ?_); refine store_event (t := 4) (p := 66) (v := ?vo_w64) (w1 := (w61.setCell ⟨go12, (8 : Int).toNat, none⟩ (.bool true))) ?hg ?ho ?hn ?hr ?_; (case ho => rfl); (case hg => rfl); (case hn => rfl); (case hr => first | (go_simp; done) | (go_simp; rfl)); intro w64 hw; have hg : w61.grownBy w64 (some go12) := (by rw [hw]; exact HP63.2); have hp_ : Kd.R Kd.bool 4 w64 w.heap.size (fun k_ => some k_ ≠ (.slice Ao37 y158.length co37 : Value).ownBlock ∧ some k_ ≠ (.slice Ao41 t163.length co41 : Value).ownBlock ∧ some k_ ≠ (.slice Ao44 y168.length co44 : Value).ownBlock ∧ some k_ ≠ (.slice Ao49 t173.length co49 : Value).ownBlock) (.slice (some ⟨go12, 0, none⟩) t180.length co55) y186 := (by rw [hw, Ny186.out]; exact HP63.1); clear HP63; have n0_ := Aside0.mk (Kd.R_after (v := (.slice (some ⟨go12, 0, none⟩) t180.length co55)) (v1 := (.slice (some ⟨go12, 0, none⟩) t180.length co55)) (ok := (fun k_ => some k_ ≠ (.slice Ao41 t163.length co41 : Value).ownBlock ∧ some k_ ≠ (.slice Ao44 y168.length co44 : Value).ownBlock ∧ some k_ ≠ (.slice Ao49 t173.length co49 : Value).ownBlock)) (rkx HO160) hg (.inl rfl)); have n1_ := Aside0.mk (Kd.R_after (v := (.slice (some ⟨go12, 0, none⟩) t180.length co55)) (v1 := (.slice (some ⟨go12, 0, none⟩) t180.length co55)) (ok := (fun k_ => some k_ ≠ (.slice Ao37 y158.length co37 : Value).ownBlock ∧ some k_ ≠ (.slice Ao44 y168.length co44 : Value).ownBlock ∧ some k_ ≠ (.slice Ao49 t173.length co49 : Value).ownBlock)) (rkx HO165) hg (.inl rfl)); have n2_ := Aside0.mk (blk_grown (g := gb167) (o := .cells #[.int .i64 t161, .int .i64 t162, .slice Ao41 t163.length co41] 24 (0, 0)) (bkx BK167) hg (Kd.R_ne HO182.out BK167.out (by decide))); have n3_ := Aside0.mk (Kd.R_after (v := (.slice (some ⟨go12, 0, none⟩) t180.length co55)) (v1 := (.slice (some ⟨go12, 0, none⟩) t180.length co55)) (ok := (fun k_ => some k_ ≠ (.slice Ao37 y158.length co37 : Value).ownBlock ∧ some k_ ≠ (.slice Ao41 t163.length co41 : Value).ownBlock ∧ some k_ ≠ (.slice Ao49 t173.length co49 : Value).ownBlock)) (rkx HO170) hg (.inl rfl)); have n4_ := Aside0.mk (Kd.R_after (v := (.slice (some ⟨go12, 0, none⟩) t180.length co55)) (v1 := (.slice (some ⟨go12, 0, none⟩) t180.length co55)) (ok := (fun k_ => some k_ ≠ (.slice Ao37 y158.length co37 : Value).ownBlock ∧ some k_ ≠ (.slice Ao41 t163.length co41 : Value).ownBlock ∧ some k_ ≠ (.slice Ao44 y168.length co44 : Value).ownBlock)) (rkx HO175) hg (.inl rfl)); have n5_ := Aside0.mk (blk_grown (g := gb177) (o := .cells #[.int .i64 t171, .int .i64 t172, .slice Ao49 t173.length co49] 24 (0, 0)) (bkx BK177) hg (Kd.R_ne HO182.out BK177.out (by decide))); have n6_ := Aside0.mk (hp_); have n7_ := Aside0.mk (blk_grown (g := gb184) (o := .cells #[.int .i64 t178, .int .i64 t179, .slice (some ⟨go12, 0, none⟩) t180.length co55] 24 (0, 0)) (bkx BK184) hg (Kd.R_ne HO182.out BK184.out (by decide))); have n8_ := Aside0.mk ((by rw [hw]; exact below_set (HB.out) GB12.out : Below w.heap.size w w64)); clear HO160; clear HO165; clear BK167; clear HO170; clear HO175; clear BK177; clear HO182; clear BK184; clear HB; have HO160 := n0_; have HO165 := n1_; have BK167 := n2_; have HO170 := n3_; have HO175 := n4_; have BK177 := n5_; have HO182 := n6_; have BK184 := n7_; have HB := n8_; clear n0_ n1_ n2_ n3_ n4_ n5_ n6_ n7_ n8_; clear hg hw hp_; have hcz65_0 : w64.cell? ⟨gb184, 0, none⟩ = some (.int .i64 t178) := (blk_cell BK184.out 0).trans rfl; have hcz65_1 : w64.cell? ⟨gb184, 1, none⟩ = some (.int .i64 t179) := (blk_cell BK184.out 1).trans rfl; have hcz65_2 : w64.cell? ⟨gb184, 2, none⟩ = some (.slice (some ⟨go12, 0, none⟩) t180.length co55) := (blk_cell BK184.out 2).trans rfl; have hfz65_0 := blk_frozen BK184.out 0; have hfz65_1 := blk_frozen BK184.out 1; have hfz65_2 := blk_frozen BK184.out 2) | ((with_reducible refine gate_callee (f := 17) rfl ?_); refine goesL_ (some 69) rfl rfl Try.func17 (by kernel_rfl) rfl #[.agg #[.int .i64 t178, .int .i64 t179, .slice (some ⟨go12, 0, none⟩) y186.length co55]] rfl (by (try simp only [List.map_toArray, List.map_cons, List.map_nil]); first | done | (rw [show y186.length = t180.length from (Kd.R_reads' HO182.out).1.symm] <;> rfl) | rfl | (simp only [List.length_drop, List.length_take]; rfl)) ?_; (with_reducible refine (raster_Bounds.calls t178 t179 _ _ y186 t187 t188 t189 t190 true _ ?side1 ?side2 A15.out).mono ?_); (case side1 => repeat (first | exact (Kd.R_reads' HO182.out).2.2 | (with_reducible refine Kd.C_alloc ?_ _) | (with_reducible refine Kd.C_drewN ?_ _) | (with_reducible refine Kd.C_drew ?_))); (case side2 => rw [show y186.length = t180.length from (Kd.R_reads' HO182.out).1.symm]; exact (Kd.R_reads' HO182.out).2.1); rintro e w66 ⟨rfl, hb⟩; refine ⟨_, rfl, ?_⟩; have n0_ := Aside0.mk (Kd.R_below (rkx HO160) hb); have n1_ := Aside0.mk (Kd.R_below (rkx HO165) hb); have n2_ := Aside0.mk (Kd.R_below (rkx HO170) hb); have n3_ := Aside0.mk (Kd.R_below (rkx HO175) hb); have n4_ := Aside0.mk (Kd.R_below (rkx HO182) hb); have n5_ := Aside0.mk (blk_below (bkx BK167) hb); have n6_ := Aside0.mk (blk_below (bkx BK177) hb); have n7_ := Aside0.mk (blk_below (bkx BK184) hb); have n8_ := Aside0.mk (below_step (hb3 HB GE167 GE177 GE184) hb); clear HO160; clear HO165; clear HO170; clear HO175; clear HO182; clear BK167; clear BK177; clear BK184; clear HB; have HO160 := n0_; have HO165 := n1_; have HO170 := n2_; have HO175 := n3_; have HO182 := n4_; have BK167 := n5_; have BK177 := n6_; have BK184 := n7_; have HB := n8_; clear n0_ n1_ n2_ n3_ n4_ n5_ n6_ n7_ n8_; (try clear hb); (try clear hb2); (try clear hk); (try clear hi)) | ((with_reducible refine gate_dst (N := 7) rfl ?_); (try (refine gate_guard (by rfl) ?_; dsimp only)); refine box_event ?hg (N := 7) ?hd (cs := #[.int .i64 0, .int .i64 0, .int .i64 0, .int .i64 0]) (t := 26) ?hr ?_; (case hd => rfl); (case hg => rfl); (case hr => first | (go_simp; done) | (go_simp; rfl)); intro gb192 hg w67 hbox hb; have n0_ := Aside0.mk (Kd.R_below (rkx HO160) hb); have n1_ := Aside0.mk (Kd.R_below (rkx HO165) hb); have n2_ := Aside0.mk (Kd.R_below (rkx HO170) hb); have n3_ := Aside0.mk (Kd.R_below (rkx HO175) hb); have n4_ := Aside0.mk (Kd.R_below (rkx HO182) hb); have n5_ := Aside0.mk (blk_below (bkx BK167) hb); have n6_ := Aside0.mk (blk_below (bkx BK177) hb); have n7_ := Aside0.mk (blk_below (bkx BK184) hb); have n8_ := Aside0.mk (below_step (hb3 HB GE167 GE177 GE184) hb); have n9_ := Aside0.mk (hbox); have n10_ := Aside0.mk ((by rw [hg]; exact (below_size (hb3 HB GE167 GE177 GE184)) : w.heap.size ≤ gb192)); have n11_ := Aside0.mk ((by rw [hg]; exact (below_size (hb3 HB GE167 GE177 GE184)) : w.heap.size ≤ gb192)); have n12_ := Aside0.mk (nel hg BK167 : gb167 ≠ gb192); have n13_ := Aside0.mk (neg hg BK167 : gb192 ≠ gb167); have n14_ := Aside0.mk (nel hg BK177 : gb177 ≠ gb192); have n15_ := Aside0.mk (neg hg BK177 : gb192 ≠ gb177); have n16_ := Aside0.mk (nel hg BK184 : gb184 ≠ gb192); have n17_ := Aside0.mk (neg hg BK184 : gb192 ≠ gb184); clear HO160; clear HO165; clear HO170; clear HO175; clear HO182; clear BK167; clear BK177; clear BK184; clear HB; have HO160 := n0_; have HO165 := n1_; have HO170 := n2_; have HO175 := n3_; have HO182 := n4_; have BK167 := n5_; have BK177 := n6_; have BK184 := n7_; have HB := n8_; have BK192 := n9_; have GW192 := n10_; have GE192 := n11_; have NB167_192 := n12_; have NB192_167 := n13_; have NB177_192 := n14_; have NB192_177 := n15_; have NB184_192 := n16_; have NB192_184 := n17_; clear n0_ n1_ n2_ n3_ n4_ n5_ n6_ n7_ n8_ n9_ n10_ n11_ n12_ n13_ n14_ n15_ n16_ n17_; clear hb hbox hg; have hnb68 := NB192_167.out; have hnc68 := NB167_192.out; have hnb69 := NB192_177.out; have hnc69 := NB177_192.out; have hnb70 := NB192_184.out; have hnc70 := NB184_192.out; have hcz71_0 : w67.cell? ⟨gb192, 0, none⟩ = some (.int .i64 0) := (blk_cell BK192.out 0).trans rfl; have hcz71_1 : w67.cell? ⟨gb192, 1, none⟩ = some (.int .i64 0) := (blk_cell BK192.out 1).trans rfl; have hcz71_2 : w67.cell? ⟨gb192, 2, none⟩ = some (.int .i64 0) := (blk_cell BK192.out 2).trans rfl; have hcz71_3 : w67.cell? ⟨gb192, 3, none⟩ = some (.int .i64 0) := (blk_cell BK192.out 3).trans rfl; have hfz71_0 := blk_frozen BK192.out 0; have hfz71_1 := blk_frozen BK192.out 1; have hfz71_2 := blk_frozen BK192.out 2; have hfz71_3 := blk_frozen BK192.out 3) | ((with_reducible refine gate_callee (f := 29) rfl ?_); refine goesL_ (some 73) rfl rfl Try.func29 (by kernel_rfl) rfl #[.int .i64 0, .int .i64 1] rfl mapx ?_; (with_reducible refine (raster_New.calls 0 1 t193 t194 t195 t198 _ A16.out).mono ?_); rintro e w72 ⟨v196, rfl, ho0, hb⟩; refine ⟨_, rfl, ?_⟩; have n0_ := Aside0.mk (Kd.R_elder' (by refine rkt ?_; exact (far4 HO160 BK192)) (Kd.R_base ho0) hb); have n1_ := Aside0.mk (Kd.R_elder' (by refine rkt ?_; exact (far4 HO165 BK192)) (Kd.R_base ho0) hb); have n2_ := Aside0.mk (Kd.R_elder' (by refine rkt ?_; exact (far4 HO170 BK192)) (Kd.R_base ho0) hb); have n3_ := Aside0.mk (Kd.R_elder' (by refine rkt ?_; exact (far4 HO175 BK192)) (Kd.R_base ho0) hb); have n4_ := Aside0.mk (Kd.R_elder' (by refine rkt ?_; exact (far4 HO182 BK192)) (Kd.R_base ho0) hb); have n5_ := Aside0.mk (Kd.R_lower (Kd.R_new' (Kd.R_new' (Kd.R_new' (Kd.R_new' (Kd.R_new' ho0 (Kd.R_lt (by refine rkt ?_; exact (far4 HO160 BK192)))) (Kd.R_lt (by refine rkt ?_; exact (far4 HO165 BK192)))) (Kd.R_lt (by refine rkt ?_; exact (far4 HO170 BK192)))) (Kd.R_lt (by refine rkt ?_; exact (far4 HO175 BK192)))) (Kd.R_lt (by refine rkt ?_; exact (far4 HO182 BK192)))) (below_size (hb4 HB GE167 GE177 GE184 GE192))); have n6_ := Aside0.mk (blk_below (g := gb167) (o := .cells #[.int .i64 t161, .int .i64 t162, .slice Ao41 t163.length co41] 24 (0, 0)) (bky BK167 NB167_192) hb); have n7_ := Aside0.mk (blk_below (g := gb177) (o := .cells #[.int .i64 t171, .int .i64 t172, .slice Ao49 t173.length co49] 24 (0, 0)) (bky BK177 NB177_192) hb); have n8_ := Aside0.mk (blk_below (g := gb184) (o := .cells #[.int .i64 t178, .int .i64 t179, .slice (some ⟨go12, 0, none⟩) t180.length co55] 24 (0, 0)) (bky BK184 NB184_192) hb); have n9_ := Aside0.mk (blk_below (g := gb192) (o := .cells #[.int .i64 t187, .int .i64 t188, .int .i64 t189, .int .i64 t190] 26 (0, 0)) (by refine bkt ?_; refine blk_put (cs := #[.int .i64 t187, .int .i64 t188, .int .i64 t189, .int .i64 0]) ?_ 3 _ rfl; refine bkt ?_; refine blk_put (cs := #[.int .i64 t187, .int .i64 t188, .int .i64 0, .int .i64 0]) ?_ 2 _ rfl; refine bkt ?_; refine blk_put (cs := #[.int .i64 t187, .int .i64 0, .int .i64 0, .int .i64 0]) ?_ 1 _ rfl; refine bkt ?_; refine blk_put (cs := #[.int .i64 0, .int .i64 0, .int .i64 0, .int .i64 0]) ?_ 0 _ rfl; refine bkt ?_; exact BK192.out) hb); have n10_ := Aside0.mk (below_step (hb4 HB GE167 GE177 GE184 GE192) hb); clear HO160; clear HO165; clear HO170; clear HO175; clear HO182; clear BK167; clear BK177; clear BK184; clear BK192; clear HB; have HO160 := n0_; have HO165 := n1_; have HO170 := n2_; have HO175 := n3_; have HO182 := n4_; have HO197 := n5_; have BK167 := n6_; have BK177 := n7_; have BK184 := n8_; have BK192 := n9_; have HB := n10_; clear n0_ n1_ n2_ n3_ n4_ n5_ n6_ n7_ n8_ n9_ n10_; (try clear hb); (try clear hb2); (try clear hk); (try clear hi); (try clear ho0)) | ((with_reducible refine gate_dst (N := 9) rfl ?_); (try (refine gate_guard (by rfl) ?_; dsimp only)); refine box_event ?hg (N := 9) ?hd (cs := #[.int .i64 0, .int .i64 0, .slice none 0 0]) (t := 24) ?hr ?_; (case hd => rfl); (case hg => rfl); (case hr => first | (go_simp; done) | (go_simp; rfl)); intro gb199 hg w73 hbox hb; have n0_ := Aside0.mk (Kd.R_below (rkx HO160) hb); have n1_ := Aside0.mk (Kd.R_below (rkx HO165) hb); have n2_ := Aside0.mk (Kd.R_below (rkx HO170) hb); have n3_ := Aside0.mk (Kd.R_below (rkx HO175) hb); have n4_ := Aside0.mk (Kd.R_below (rkx HO182) hb); have n5_ := Aside0.mk (Kd.R_below (rkx HO197) hb); have n6_ := Aside0.mk (blk_below (bkx BK167) hb); have n7_ := Aside0.mk (blk_below (bkx BK177) hb); have n8_ := Aside0.mk (blk_below (bkx BK184) hb); have n9_ := Aside0.mk (blk_below (bkx BK192) hb); have n10_ := Aside0.mk (below_step (hb4 HB GE167 GE177 GE184 GE192) hb); have n11_ := Aside0.mk (hbox); have n12_ := Aside0.mk ((by rw [hg]; exact (below_size (hb4 HB GE167 GE177 GE184 GE192)) : w.heap.size ≤ gb199)); have n13_ := Aside0.mk ((by rw [hg]; exact (below_size (hb4 HB GE167 GE177 GE184 GE192)) : w.heap.size ≤ gb199)); have n14_ := Aside0.mk (nel hg BK167 : gb167 ≠ gb199); have n15_ := Aside0.mk (neg hg BK167 : gb199 ≠ gb167); have n16_ := Aside0.mk (nel hg BK177 : gb177 ≠ gb199); have n17_ := Aside0.mk (neg hg BK177 : gb199 ≠ gb177); have n18_ := Aside0.mk (nel hg BK184 : gb184 ≠ gb199); have n19_ := Aside0.mk (neg hg BK184 : gb199 ≠ gb184); have n20_ := Aside0.mk (nel hg BK192 : gb192 ≠ gb199); have n21_ := Aside0.mk (neg hg BK192 : gb199 ≠ gb192); clear HO160; clear HO165; clear HO170; clear HO175; clear HO182; clear HO197; clear BK167; clear BK177; clear BK184; clear BK192; clear HB; have HO160 := n0_; have HO165 := n1_; have HO170 := n2_; have HO175 := n3_; have HO182 := n4_; have HO197 := n5_; have BK167 := n6_; have BK177 := n7_; have BK184 := n8_; have BK192 := n9_; have HB := n10_; have BK199 := n11_; have GW199 := n12_; have GE199 := n13_; have NB167_199 := n14_; have NB199_167 := n15_; have NB177_199 := n16_; have NB199_177 := n17_; have NB184_199 := n18_; have NB199_184 := n19_; have NB192_199 := n20_; have NB199_192 := n21_; clear n0_ n1_ n2_ n3_ n4_ n5_ n6_ n7_ n8_ n9_ n10_ n11_ n12_ n13_ n14_ n15_ n16_ n17_ n18_ n19_ n20_ n21_; clear hb hbox hg; have hnb74 := NB199_167.out; have hnc74 := NB167_199.out; have hnb75 := NB199_177.out; have hnc75 := NB177_199.out; have hnb76 := NB199_184.out; have hnc76 := NB184_199.out; have hnb77 := NB199_192.out; have hnc77 := NB192_199.out; have hcz78_0 : w73.cell? ⟨gb199, 0, none⟩ = some (.int .i64 0) := (blk_cell BK199.out 0).trans rfl; have hcz78_1 : w73.cell? ⟨gb199, 1, none⟩ = some (.int .i64 0) := (blk_cell BK199.out 1).trans rfl; have hcz78_2 : w73.cell? ⟨gb199, 2, none⟩ = some (.slice none 0 0) := (blk_cell BK199.out 2).trans rfl; have hfz78_0 := blk_frozen BK199.out 0; have hfz78_1 := blk_frozen BK199.out 1; have hfz78_2 := blk_frozen BK199.out 2; obtain ⟨Ao79, co79, eo79⟩ := Kd.R_slice HO197.out; subst eo79; have hcz80_0 : w73.cell? ⟨gb167, 0, none⟩ = some (.int .i64 t161) := (blk_cell BK167.out 0).trans rfl; have hcz80_1 : w73.cell? ⟨gb167, 1, none⟩ = some (.int .i64 t162) := (blk_cell BK167.out 1).trans rfl; have hcz80_2 : w73.cell? ⟨gb167, 2, none⟩ = some (.slice Ao41 t163.length co41) := (blk_cell BK167.out 2).trans rfl; have hfz80_0 := blk_frozen BK167.out 0; have hfz80_1 := blk_frozen BK167.out 1; have hfz80_2 := blk_frozen BK167.out 2; have p200 : 0 ≤ (0 : Int) := (by omega); have q200 : 0 < (t163.length : Int) := of_decide_eq_true (by first | (with_reducible assumption) | assumption); obtain ⟨ad200, e200, hx200_0⟩ := Kd.at_bool (Kd.R_reads' HO165.out).2.2 0 p200 q200; (try rw [← Nbq18.out] at hx200_0); (try rw [← Nbq21.out] at hx200_0); (try rw [← Nbq24.out] at hx200_0); (try rw [← Nbq27.out] at hx200_0); cases e200; have qi200 : (0 < t163.length) = True := eq_true (by omega); (try rw [show ((0 : Int)).toNat = 0 from rfl] at hx200_0); (try rw [Addr.add_zero'] at hx200_0); have hn200_0 : ad200.block ≠ gb199 := Kd.own_blk (Kd.R_ne HO165.out BK199.out (by decide)); have hn200_1 : ad200.block ≠ gb199 := Kd.own_blk (Kd.R_ne HO165.out BK199.out (by decide)); have hn200_2 : ad200.block ≠ gb199 := Kd.own_blk (Kd.R_ne HO165.out BK199.out (by decide)); replace hx200_0 := (cell_far (p := ⟨gb199, 0, none⟩) (by first | (rw [add_block]; exact hn200_0) | (show (Addr.add _ _).block ≠ _; rw [add_block]; exact hn200_0) | exact hn200_0) (.int .i64 t193)).trans hx200_0; replace hx200_0 := (cell_far (p := ⟨gb199, 1, none⟩) (by first | (rw [add_block]; exact hn200_1) | (show (Addr.add _ _).block ≠ _; rw [add_block]; exact hn200_1) | exact hn200_1) (.int .i64 t194)).trans hx200_0; replace hx200_0 := (cell_far (p := ⟨gb199, 2, none⟩) (by first | (rw [add_block]; exact hn200_2) | (show (Addr.add _ _).block ≠ _; rw [add_block]; exact hn200_2) | exact hn200_2) (.slice Ao79 t195.length co79)).trans hx200_0; clear hn200_0; clear hn200_1; clear hn200_2; replace p200 := eq_true p200; replace q200 := eq_true q200; have p201 : 0 ≤ (1 : Int) := (by omega); have q201 : 1 < (t163.length : Int) := of_decide_eq_true (by first | (with_reducible assumption) | assumption); obtain ⟨ad201, e201, hx201_0⟩ := Kd.at_bool (Kd.R_reads' HO165.out).2.2 1 p201 q201; (try rw [← Nbq18.out] at hx201_0); (try rw [← Nbq21.out] at hx201_0); (try rw [← Nbq24.out] at hx201_0); (try rw [← Nbq27.out] at hx201_0); obtain rfl : ad200 = ad201 := (by injection e201); (try simp only [show (1 : Int).toNat = 1 from rfl, Nat.reduceMul, Nat.reduceEqDiff, Go.Addr.add, ↓reduceIte] at hx201_0); have qi201 : (1 < t163.length) = True := eq_true (by omega); (try rw [show ((1 : Int)).toNat = 1 from rfl] at hx201_0); have hn201_0 : ad200.block ≠ gb199 := Kd.own_blk (Kd.R_ne HO165.out BK199.out (by decide)); have hn201_1 : ad200.block ≠ gb199 := Kd.own_blk (Kd.R_ne HO165.out BK199.out (by decide)); have hn201_2 : ad200.block ≠ gb199 := Kd.own_blk (Kd.R_ne HO165.out BK199.out (by decide)); replace hx201_0 := (cell_far (p := ⟨gb199, 0, none⟩) (by first | (rw [add_block]; exact hn201_0) | (show (Addr.add _ _).block ≠ _; rw [add_block]; exact hn201_0) | exact hn201_0) (.int .i64 t193)).trans hx201_0; replace hx201_0 := (cell_far (p := ⟨gb199, 1, none⟩) (by first | (rw [add_block]; exact hn201_1) | (show (Addr.add _ _).block ≠ _; rw [add_block]; exact hn201_1) | exact hn201_1) (.int .i64 t194)).trans hx201_0; replace hx201_0 := (cell_far (p := ⟨gb199, 2, none⟩) (by first | (rw [add_block]; exact hn201_2) | (show (Addr.add _ _).block ≠ _; rw [add_block]; exact hn201_2) | exact hn201_2) (.slice Ao79 t195.length co79)).trans hx201_0; clear hn201_0; clear hn201_1; clear hn201_2; replace p201 := eq_true p201; replace q201 := eq_true q201; have hcz81_0 : w73.cell? ⟨gb177, 0, none⟩ = some (.int .i64 t171) := (blk_cell BK177.out 0).trans rfl; have hcz81_1 : w73.cell? ⟨gb177, 1, none⟩ = some (.int .i64 t172) := (blk_cell BK177.out 1).trans rfl; have hcz81_2 : w73.cell? ⟨gb177, 2, none⟩ = some (.slice Ao49 t173.length co49) := (blk_cell BK177.out 2).trans rfl; have hfz81_0 := blk_frozen BK177.out 0; have hfz81_1 := blk_frozen BK177.out 1; have hfz81_2 := blk_frozen BK177.out 2; have p202 : 0 ≤ (1 : Int) := (by omega); have q202 : 1 < (t173.length : Int) := of_decide_eq_true (by first | (with_reducible assumption) | assumption); obtain ⟨ad202, e202, hx202_0⟩ := Kd.at_bool (Kd.R_reads' HO175.out).2.2 1 p202 q202; (try rw [← Nbq18.out] at hx202_0); (try rw [← Nbq21.out] at hx202_0); (try rw [← Nbq24.out] at hx202_0); (try rw [← Nbq27.out] at hx202_0); cases e202; (try simp only [show (1 : Int).toNat = 1 from rfl, Nat.reduceMul, Nat.reduceEqDiff, Go.Addr.add, ↓reduceIte] at hx202_0); have qi202 : (1 < t173.length) = True := eq_true (by omega); (try rw [show ((1 : Int)).toNat = 1 from rfl] at hx202_0); have hn202_0 : ad202.block ≠ gb199 := Kd.own_blk (Kd.R_ne HO175.out BK199.out (by decide)); have hn202_1 : ad202.block ≠ gb199 := Kd.own_blk (Kd.R_ne HO175.out BK199.out (by decide)); have hn202_2 : ad202.block ≠ gb199 := Kd.own_blk (Kd.R_ne HO175.out BK199.out (by decide)); replace hx202_0 := (cell_far (p := ⟨gb199, 0, none⟩) (by first | (rw [add_block]; exact hn202_0) | (show (Addr.add _ _).block ≠ _; rw [add_block]; exact hn202_0) | exact hn202_0) (.int .i64 t193)).trans hx202_0; replace hx202_0 := (cell_far (p := ⟨gb199, 1, none⟩) (by first | (rw [add_block]; exact hn202_1) | (show (Addr.add _ _).block ≠ _; rw [add_block]; exact hn202_1) | exact hn202_1) (.int .i64 t194)).trans hx202_0; replace hx202_0 := (cell_far (p := ⟨gb199, 2, none⟩) (by first | (rw [add_block]; exact hn202_2) | (show (Addr.add _ _).block ≠ _; rw [add_block]; exact hn202_2) | exact hn202_2) (.slice Ao79 t195.length co79)).trans hx202_0; clear hn202_0; clear hn202_1; clear hn202_2; replace p202 := eq_true p202; replace q202 := eq_true q202; have p203 : 0 ≤ (0 : Int) := (by omega); have q203 : 0 < (t173.length : Int) := of_decide_eq_true (by first | (with_reducible assumption) | assumption); obtain ⟨ad203, e203, hx203_0⟩ := Kd.at_bool (Kd.R_reads' HO175.out).2.2 0 p203 q203; (try rw [← Nbq18.out] at hx203_0); (try rw [← Nbq21.out] at hx203_0); (try rw [← Nbq24.out] at hx203_0); (try rw [← Nbq27.out] at hx203_0); obtain rfl : ad202 = ad203 := (by injection e203); have qi203 : (0 < t173.length) = True := eq_true (by omega); (try rw [show ((0 : Int)).toNat = 0 from rfl] at hx203_0); (try rw [Addr.add_zero'] at hx203_0); have hn203_0 : ad202.block ≠ gb199 := Kd.own_blk (Kd.R_ne HO175.out BK199.out (by decide)); have hn203_1 : ad202.block ≠ gb199 := Kd.own_blk (Kd.R_ne HO175.out BK199.out (by decide)); have hn203_2 : ad202.block ≠ gb199 := Kd.own_blk (Kd.R_ne HO175.out BK199.out (by decide)); replace hx203_0 := (cell_far (p := ⟨gb199, 0, none⟩) (by first | (rw [add_block]; exact hn203_0) | (show (Addr.add _ _).block ≠ _; rw [add_block]; exact hn203_0) | exact hn203_0) (.int .i64 t193)).trans hx203_0; replace hx203_0 := (cell_far (p := ⟨gb199, 1, none⟩) (by first | (rw [add_block]; exact hn203_1) | (show (Addr.add _ _).block ≠ _; rw [add_block]; exact hn203_1) | exact hn203_1) (.int .i64 t194)).trans hx203_0; replace hx203_0 := (cell_far (p := ⟨gb199, 2, none⟩) (by first | (rw [add_block]; exact hn203_2) | (show (Addr.add _ _).block ≠ _; rw [add_block]; exact hn203_2) | exact hn203_2) (.slice Ao79 t195.length co79)).trans hx203_0; clear hn203_0; clear hn203_1; clear hn203_2; replace p203 := eq_true p203; replace q203 := eq_true q203; have hcz82_0 : w73.cell? ⟨gb192, 0, none⟩ = some (.int .i64 t187) := (blk_cell BK192.out 0).trans rfl; have hcz82_1 : w73.cell? ⟨gb192, 1, none⟩ = some (.int .i64 t188) := (blk_cell BK192.out 1).trans rfl; have hcz82_2 : w73.cell? ⟨gb192, 2, none⟩ = some (.int .i64 t189) := (blk_cell BK192.out 2).trans rfl; have hcz82_3 : w73.cell? ⟨gb192, 3, none⟩ = some (.int .i64 t190) := (blk_cell BK192.out 3).trans rfl; have hfz82_0 := blk_frozen BK192.out 0; have hfz82_1 := blk_frozen BK192.out 1; have hfz82_2 := blk_frozen BK192.out 2; have hfz82_3 := blk_frozen BK192.out 3; have hcz83_0 : w73.cell? ⟨gb184, 0, none⟩ = some (.int .i64 t178) := (blk_cell BK184.out 0).trans rfl; have hcz83_1 : w73.cell? ⟨gb184, 1, none⟩ = some (.int .i64 t179) := (blk_cell BK184.out 1).trans rfl; have hcz83_2 : w73.cell? ⟨gb184, 2, none⟩ = some (.slice (some ⟨go12, 0, none⟩) t180.length co55) := (blk_cell BK184.out 2).trans rfl; have hfz83_0 := blk_frozen BK184.out 0; have hfz83_1 := blk_frozen BK184.out 1; have hfz83_2 := blk_frozen BK184.out 2) | (go_at_call 34; refine calls_of_args (args' := #[.agg #[.int .i64 t178, .int .i64 t179, .slice (some ⟨go12, 0, none⟩) y186.length co55], .int .i64 1, .int .i64 2]) (by first | (rw [show y186.length = t180.length from (Kd.R_reads' HO182.out).1.symm] <;> rfl) | rfl) ?_; (with_reducible refine (raster_At.calls t178 t179 _ _ y186 1 2 true _ ?side1 ?side2 A32.out).mono ?_); (case side1 => refine (Kd.R_reads' (e := 4) (base := w.heap.size) (ok := fun k_ => ((some k_ ≠ (.slice Ao37 y158.length co37 : Value).ownBlock ∧ (some k_ ≠ (.slice (some ad200) t163.length co41 : Value).ownBlock ∧ (some k_ ≠ (.slice Ao44 y168.length co44 : Value).ownBlock ∧ some k_ ≠ (.slice (some ad202) t173.length co49 : Value).ownBlock))) ∧ some k_ ≠ (.slice Ao79 t195.length co79 : Value).ownBlock)) (n := t180.length) (c := co55) ?_).2.2; exact (by refine rkt ?_; exact (far3 HO182 BK199))); (case side2 => rw [show y186.length = t180.length from (Kd.R_reads' HO182.out).1.symm]; exact (Kd.R_reads' HO182.out).2.1); rintro e w84 ⟨rfl, hb⟩; have n0_ := Aside0.mk (Kd.R_below (by refine rkt ?_; exact (far3 HO160 BK199)) hb); have n1_ := Aside0.mk (Kd.R_below (by refine rkt ?_; exact (far3 HO165 BK199)) hb); have n2_ := Aside0.mk (Kd.R_below (by refine rkt ?_; exact (far3 HO170 BK199)) hb); have n3_ := Aside0.mk (Kd.R_below (by refine rkt ?_; exact (far3 HO175 BK199)) hb); have n4_ := Aside0.mk (Kd.R_below (by refine rkt ?_; exact (far3 HO182 BK199)) hb); have n5_ := Aside0.mk (Kd.R_below (by refine rkt ?_; exact (far3 HO197 BK199)) hb); have n6_ := Aside0.mk (blk_below (g := gb167) (o := .cells #[.int .i64 t161, .int .i64 t162, .slice (some ad200) t163.length co41] 24 (0, 0)) (bky BK167 NB167_199) hb); have n7_ := Aside0.mk (blk_below (g := gb177) (o := .cells #[.int .i64 t171, .int .i64 t172, .slice (some ad202) t173.length co49] 24 (0, 0)) (bky BK177 NB177_199) hb); have n8_ := Aside0.mk (blk_below (g := gb184) (o := .cells #[.int .i64 t178, .int .i64 t179, .slice (some ⟨go12, 0, none⟩) t180.length co55] 24 (0, 0)) (bky BK184 NB184_199) hb); have n9_ := Aside0.mk (blk_below (g := gb192) (o := .cells #[.int .i64 t187, .int .i64 t188, .int .i64 t189, .int .i64 t190] 26 (0, 0)) (bky BK192 NB192_199) hb); have n10_ := Aside0.mk (blk_below (g := gb199) (o := .cells #[.int .i64 t193, .int .i64 t194, .slice Ao79 t195.length co79] 24 (0, 0)) (by refine bkt ?_; refine blk_put (cs := #[.int .i64 t193, .int .i64 t194, .slice none 0 0]) ?_ 2 _ rfl; refine bkt ?_; refine blk_put (cs := #[.int .i64 t193, .int .i64 0, .slice none 0 0]) ?_ 1 _ rfl; refine bkt ?_; refine blk_put (cs := #[.int .i64 0, .int .i64 0, .slice none 0 0]) ?_ 0 _ rfl; refine bkt ?_; exact BK199.out) hb); have n11_ := Aside0.mk (below_step (hb5 HB GE167 GE177 GE184 GE192 GE199) hb); clear HO160; clear HO165; clear HO170; clear HO175; clear HO182; clear HO197; clear BK167; clear BK177; clear BK184; clear BK192; clear BK199; clear HB; have HO160 := n0_; have HO165 := n1_; have HO170 := n2_; have HO175 := n3_; have HO182 := n4_; have HO197 := n5_; have BK167 := n6_; have BK177 := n7_; have BK184 := n8_; have BK192 := n9_; have BK199 := n10_; have HB := n11_; clear n0_ n1_ n2_ n3_ n4_ n5_ n6_ n7_ n8_ n9_ n10_ n11_; (try clear hb); (try clear hb2); (try clear hk); (try clear hi); have hcz85_0 : w84.cell? ⟨gb184, 0, none⟩ = some (.int .i64 t178) := (blk_cell BK184.out 0).trans rfl; have hcz85_1 : w84.cell? ⟨gb184, 1, none⟩ = some (.int .i64 t179) := (blk_cell BK184.out 1).trans rfl; have hcz85_2 : w84.cell? ⟨gb184, 2, none⟩ = some (.slice (some ⟨go12, 0, none⟩) t180.length co55) := (blk_cell BK184.out 2).trans rfl; have hfz85_0 := blk_frozen BK184.out 0; have hfz85_1 := blk_frozen BK184.out 1; have hfz85_2 := blk_frozen BK184.out 2) | (go_at_call 34; refine calls_of_args (args' := #[.agg #[.int .i64 t178, .int .i64 t179, .slice (some ⟨go12, 0, none⟩) y186.length co55], .int .i64 2, .int .i64 1]) (by first | (rw [show y186.length = t180.length from (Kd.R_reads' HO182.out).1.symm] <;> rfl) | rfl) ?_; (with_reducible refine (raster_At.calls t178 t179 _ _ y186 2 1 t205 _ ?side1 ?side2 A34.out).mono ?_); (case side1 => repeat (first | exact (Kd.R_reads' HO182.out).2.2 | (with_reducible refine Kd.C_alloc ?_ _) | (with_reducible refine Kd.C_drewN ?_ _) | (with_reducible refine Kd.C_drew ?_))); (case side2 => rw [show y186.length = t180.length from (Kd.R_reads' HO182.out).1.symm]; exact (Kd.R_reads' HO182.out).2.1); rintro e w86 ⟨rfl, hb⟩; have n0_ := Aside0.mk (Kd.R_below (rkx HO160) hb); have n1_ := Aside0.mk (Kd.R_below (rkx HO165) hb); have n2_ := Aside0.mk (Kd.R_below (rkx HO170) hb); have n3_ := Aside0.mk (Kd.R_below (rkx HO175) hb); have n4_ := Aside0.mk (Kd.R_below (rkx HO182) hb); have n5_ := Aside0.mk (Kd.R_below (rkx HO197) hb); have n6_ := Aside0.mk (blk_below (bkx BK167) hb); have n7_ := Aside0.mk (blk_below (bkx BK177) hb); have n8_ := Aside0.mk (blk_below (bkx BK184) hb); have n9_ := Aside0.mk (blk_below (bkx BK192) hb); have n10_ := Aside0.mk (blk_below (bkx BK199) hb); have n11_ := Aside0.mk (below_step (hb5 HB GE167 GE177 GE184 GE192 GE199) hb); clear HO160; clear HO165; clear HO170; clear HO175; clear HO182; clear HO197; clear BK167; clear BK177; clear BK184; clear BK192; clear BK199; clear HB; have HO160 := n0_; have HO165 := n1_; have HO170 := n2_; have HO175 := n3_; have HO182 := n4_; have HO197 := n5_; have BK167 := n6_; have BK177 := n7_; have BK184 := n8_; have BK192 := n9_; have BK199 := n10_; have HB := n11_; clear n0_ n1_ n2_ n3_ n4_ n5_ n6_ n7_ n8_ n9_ n10_ n11_; (try clear hb); (try clear hb2); (try clear hk); (try clear hi)))
                      go_ret
                      exact ⟨by first | rfl | (simp [errW_none, errW_some] <;> rfl) | (simp [*, errW_none, errW_some] <;> rfl), by repeat (first | (with_reducible first | exact HB.out | apply below_alloc | apply pw_below_drewN | apply below_drew1 | refine below_set ?_ GE167.out | refine below_set ?_ GE177.out | refine below_set ?_ GE184.out | refine below_set ?_ GE192.out | refine below_set ?_ GE199.out) | exact HB.out)⟩
                     ·replace c33 := Bool.eq_false_iff.mpr c33
                      subst c33
                      have H1 : (none) = some r := by rw [if_neg (show ¬ (false = true) by decide)] at H; exact H
                      clear H
                      have H := H1
                      clear H1
                      exact absurd H (by simp)
                    ·rw [if_neg c31] at H
                     exact absurd H (by simp)
                   ·rw [if_neg c30] at H
                    exact absurd H (by simp)
                  ·replace c29 := Bool.eq_false_iff.mpr c29
                   subst c29
                   have H1 : (none) = some r := by rw [if_neg (show ¬ (false = true) by decide)] at H; exact H
                   clear H
                   have H := H1
                   clear H1
                   exact absurd H (by simp)
                ·rw [if_neg c26] at H
                 exact absurd H (by simp)
               ·replace c25 := Bool.eq_false_iff.mpr c25
                subst c25
                have H1 : (none) = some r := by rw [if_neg (show ¬ (false = true) by decide)] at H; exact H
                clear H
                have H := H1
                clear H1
                exact absurd H (by simp)
              ·rw [if_neg c23] at H
               exact absurd H (by simp)
            ·rw [if_neg c20] at H
             exact absurd H (by simp)
           ·replace c19 := Bool.eq_false_iff.mpr c19
            subst c19
            have H1 : (none) = some r := by rw [if_neg (show ¬ (false = true) by decide)] at H; exact H
            clear H
            have H := H1
            clear H1
            exact absurd H (by simp)
          ·rw [if_neg c17] at H
           exact absurd H (by simp)
         ·rw [if_neg c13] at H
          exact absurd H (by simp)
        ·rw [if_neg c11] at H
         exact absurd H (by simp)
       ·rw [if_neg c10] at H
        exact absurd H (by simp)
      ·rw [if_neg c9] at H
       exact absurd H (by simp)
     ·rw [if_neg c8] at H
      exact absurd H (by simp)
    ·rw [if_neg c7] at H
     exact absurd H (by simp)
   ·rw [if_neg c6] at H
    exact absurd H (by simp)
  ·rw [if_neg c5] at H
   exact absurd H (by simp)
 ·rw [if_neg c4] at H
  exact absurd H (by simp)

/-! ### barscanref31_fits: function 46 -/
def barscanref31_fits.f (a0 : Int) (a1 : Int) : Option (Bool) := if a0 ≥ 1 then (if a0 ≤ 4096 then (if a1 ≥ 1 then (if a1 ≤ 4096 then (some (decide ((wrap64 (a0 * a1)) ≤ 4194304))) else (some false)) else (some false)) else (some false)) else (some false)
set_option maxHeartbeats 8000000 in
set_option maxRecDepth 100000 in
theorem barscanref31_fits.calls (a0 : Int) (a1 : Int) (r : Bool) (w : World) (h : barscanref31_fits.f a0 a1 = some r) :
  Calls Try.prog 46 #[.int .i64 a0, .int .i64 a1] w fun e w' => e = .returned (.bool r) ∧ Drawn0 w w' := by
 have H : (if a0 ≥ 1 then (if a0 ≤ 4096 then (if a1 ≥ 1 then (if a1 ≤ 4096 then (some (decide ((wrap64 (a0 * a1)) ≤ 4194304))) else (some false)) else (some false)) else (some false)) else (some false)) = some r := h
 clear h
 by_cases c3 : a0 ≥ 1
 ·rw [if_pos c3] at H
  have c3b0 : decide (1 ≤ a0) = true := decide_eq_true c3
  clear c3
  by_cases c4 : a0 ≤ 4096
  ·rw [if_pos c4] at H
   have c4b0 : decide (a0 ≤ 4096) = true := decide_eq_true c4
   clear c4
   by_cases c5 : a1 ≥ 1
   ·rw [if_pos c5] at H
    have c5b0 : decide (1 ≤ a1) = true := decide_eq_true c5
    clear c5
    by_cases c6 : a1 ≤ 4096
    ·rw [if_pos c6] at H
     have c6b0 : decide (a1 ≤ 4096) = true := decide_eq_true c6
     clear c6
     obtain rfl := Option.some.inj H
     go_enter Try.func46, Try.ntmps46
     go_wp2
     go_ret
     exact ⟨by first | rfl | (simp; done) | (simp [*]; done), by repeat (first | exact Drawn0.refl _ | apply Drawn0.step)⟩
    ·rw [if_neg c6] at H
     have c6b0 : decide (a1 ≤ 4096) = false := decide_eq_false c6
     clear c6
     obtain rfl := Option.some.inj H
     go_enter Try.func46, Try.ntmps46
     go_wp2
     go_ret
     exact ⟨by first | rfl | (simp; done) | (simp [*]; done), by repeat (first | exact Drawn0.refl _ | apply Drawn0.step)⟩
   ·rw [if_neg c5] at H
    have c5b0 : decide (1 ≤ a1) = false := decide_eq_false c5
    clear c5
    obtain rfl := Option.some.inj H
    go_enter Try.func46, Try.ntmps46
    go_wp2
    go_ret
    exact ⟨by first | rfl | (simp; done) | (simp [*]; done), by repeat (first | exact Drawn0.refl _ | apply Drawn0.step)⟩
  ·rw [if_neg c4] at H
   have c4b0 : decide (a0 ≤ 4096) = false := decide_eq_false c4
   clear c4
   obtain rfl := Option.some.inj H
   go_enter Try.func46, Try.ntmps46
   go_wp2
   go_ret
   exact ⟨by first | rfl | (simp; done) | (simp [*]; done), by repeat (first | exact Drawn0.refl _ | apply Drawn0.step)⟩
 ·rw [if_neg c3] at H
  have c3b0 : decide (1 ≤ a0) = false := decide_eq_false c3
  clear c3
  obtain rfl := Option.some.inj H
  go_enter Try.func46, Try.ntmps46
  go_wp2
  go_ret
  exact ⟨by first | rfl | (simp; done) | (simp [*]; done), by repeat (first | exact Drawn0.refl _ | apply Drawn0.step)⟩

/-! ### barscanref31_Valid: function 26 -/
def barscanref31_Valid.f (a0_0 : Int) (a0_1 : Int) (l0_2 : List Bool) : Option (Bool) := (barscanref31_fits.f a0_0 a0_1).bind fun t207 => (if t207 = true then (some ((l0_2.length : Int) == (wrap64 (a0_0 * a0_1)))) else (some false))
set_option maxHeartbeats 8000000 in
set_option maxRecDepth 100000 in
theorem barscanref31_Valid.calls (a0_0 : Int) (a0_1 : Int) (A0_2 : Option Addr) (c0_2 : Nat) (l0_2 : List Bool) (r : Bool) (w : World) (hr0_2 : Kd.C Kd.bool w A0_2 l0_2.length l0_2) (hc0_2 : l0_2.length ≤ c0_2) (h : barscanref31_Valid.f a0_0 a0_1 l0_2 = some r) :
  Calls Try.prog 26 #[.agg #[.int .i64 a0_0, .int .i64 a0_1, .slice A0_2 l0_2.length c0_2]] w fun e w' => e = .returned (.bool r) ∧ Below w.heap.size w w' := by
 have hu24 := Try.underlying24
 have HR0_2 := Aside0.mk hr0_2
 have HC0_2 := Aside0.mk hc0_2
 clear hr0_2 hc0_2
 have HB := Aside0.mk (Below.refl w.heap.size w)
 have H : ((barscanref31_fits.f a0_0 a0_1).bind fun t207 => (if t207 = true then (some ((l0_2.length : Int) == (wrap64 (a0_0 * a0_1)))) else (some false))) = some r := h
 clear h
 replace H := Option.bind_eq_some_iff.mp H
 obtain ⟨t207, A20, H⟩ := H
 replace H : (if t207 = true then (some ((l0_2.length : Int) == (wrap64 (a0_0 * a0_1)))) else (some false)) = some r := H
 have A2 := Aside0.mk A20
 clear A20
 by_cases c3 : t207 = true
 ·subst c3
  have H1 : (some ((l0_2.length : Int) == (wrap64 (a0_0 * a0_1)))) = some r := by rw [if_pos rfl] at H; exact H
  clear H
  have H := H1
  clear H1
  obtain rfl := Option.some.inj H
  go_enter Try.func26, Try.ntmps26
  go_wp2_with (first | ((with_reducible refine gate_dst (N := 1) rfl ?_); (try (refine gate_guard (by rfl) ?_; dsimp only)); refine box_event ?hg (N := 1) ?hd (cs := #[.int .i64 a0_0, .int .i64 a0_1, .slice A0_2 l0_2.length c0_2]) (t := 24) ?hr ?_; (case hd => rfl); (case hg => rfl); (case hr => first | (go_simp; done) | (go_simp; rfl)); intro gb206 hg w4 hbox hb; have n0_ := Aside0.mk (below_step (hb0 HB) hb); have n1_ := Aside0.mk (hbox); have n2_ := Aside0.mk ((by rw [hg]; exact (below_size (hb0 HB)) : w.heap.size ≤ gb206)); have n3_ := Aside0.mk ((by rw [hg]; exact (below_size (hb0 HB)) : w.heap.size ≤ gb206)); clear HB; have HB := n0_; have BK206 := n1_; have GW206 := n2_; have GE206 := n3_; clear n0_ n1_ n2_ n3_; clear hb hbox hg; have hcz5_0 : w4.cell? ⟨gb206, 0, none⟩ = some (.int .i64 a0_0) := (blk_cell BK206.out 0).trans rfl; have hcz5_1 : w4.cell? ⟨gb206, 1, none⟩ = some (.int .i64 a0_1) := (blk_cell BK206.out 1).trans rfl; have hcz5_2 : w4.cell? ⟨gb206, 2, none⟩ = some (.slice A0_2 l0_2.length c0_2) := (blk_cell BK206.out 2).trans rfl; have hfz5_0 := blk_frozen BK206.out 0; have hfz5_1 := blk_frozen BK206.out 1; have hfz5_2 := blk_frozen BK206.out 2) | ((with_reducible refine gate_callee (f := 46) rfl ?_); refine goesL_ (some 7) rfl rfl Try.func46 (by kernel_rfl) rfl #[.int .i64 a0_0, .int .i64 a0_1] rfl mapx ?_; (with_reducible refine (barscanref31_fits.calls a0_0 a0_1 true _ A2.out).mono ?_); rintro e w' ⟨rfl, ⟨nd, rfl⟩⟩; refine ⟨_, rfl, ?_⟩))
  go_ret
  exact ⟨by first | rfl | (simp [errW_none, errW_some] <;> rfl) | (simp [*, errW_none, errW_some] <;> rfl), by repeat (first | (with_reducible first | exact HB.out | apply below_alloc | apply pw_below_drewN | apply below_drew1 | refine below_set ?_ GE206.out) | exact HB.out)⟩
 ·replace c3 := Bool.eq_false_iff.mpr c3
  subst c3
  have H1 : (some false) = some r := by rw [if_neg (show ¬ (false = true) by decide)] at H; exact H
  clear H
  have H := H1
  clear H1
  obtain rfl := Option.some.inj H
  go_enter Try.func26, Try.ntmps26
  go_wp2_with (first | ((with_reducible refine gate_dst (N := 1) rfl ?_); (try (refine gate_guard (by rfl) ?_; dsimp only)); refine box_event ?hg (N := 1) ?hd (cs := #[.int .i64 a0_0, .int .i64 a0_1, .slice A0_2 l0_2.length c0_2]) (t := 24) ?hr ?_; (case hd => rfl); (case hg => rfl); (case hr => first | (go_simp; done) | (go_simp; rfl)); intro gb206 hg w6 hbox hb; have n0_ := Aside0.mk (below_step (hb0 HB) hb); have n1_ := Aside0.mk (hbox); have n2_ := Aside0.mk ((by rw [hg]; exact (below_size (hb0 HB)) : w.heap.size ≤ gb206)); have n3_ := Aside0.mk ((by rw [hg]; exact (below_size (hb0 HB)) : w.heap.size ≤ gb206)); clear HB; have HB := n0_; have BK206 := n1_; have GW206 := n2_; have GE206 := n3_; clear n0_ n1_ n2_ n3_; clear hb hbox hg; have hcz7_0 : w6.cell? ⟨gb206, 0, none⟩ = some (.int .i64 a0_0) := (blk_cell BK206.out 0).trans rfl; have hcz7_1 : w6.cell? ⟨gb206, 1, none⟩ = some (.int .i64 a0_1) := (blk_cell BK206.out 1).trans rfl; have hcz7_2 : w6.cell? ⟨gb206, 2, none⟩ = some (.slice A0_2 l0_2.length c0_2) := (blk_cell BK206.out 2).trans rfl; have hfz7_0 := blk_frozen BK206.out 0; have hfz7_1 := blk_frozen BK206.out 1; have hfz7_2 := blk_frozen BK206.out 2) | ((with_reducible refine gate_callee (f := 46) rfl ?_); refine goesL_ (some 7) rfl rfl Try.func46 (by kernel_rfl) rfl #[.int .i64 a0_0, .int .i64 a0_1] rfl mapx ?_; (with_reducible refine (barscanref31_fits.calls a0_0 a0_1 false _ A2.out).mono ?_); rintro e w' ⟨rfl, ⟨nd, rfl⟩⟩; refine ⟨_, rfl, ?_⟩))
  go_ret
  exact ⟨by first | rfl | (simp [errW_none, errW_some] <;> rfl) | (simp [*, errW_none, errW_some] <;> rfl), by repeat (first | (with_reducible first | exact HB.out | apply below_alloc | apply pw_below_drewN | apply below_drew1 | refine below_set ?_ GE206.out) | exact HB.out)⟩

/-! ### barscanref31_At: function 35 -/
def barscanref31_At.f (a0_0 : Int) (a0_1 : Int) (l0_2 : List Bool) (a1 : Int) (a2 : Int) : Option (Bool) := (barscanref31_Valid.f a0_0 a0_1 l0_2).bind fun t209 => (if t209 = true then (if a1 ≥ 0 then (if a1 < a0_0 then (if a2 ≥ 0 then (if a2 < a0_1 then (if 0 ≤ (wrap64 ((wrap64 (a2 * a0_0)) + a1)) then (if (wrap64 ((wrap64 (a2 * a0_0)) + a1)) < (l0_2.length : Int) then (some (rdOf false l0_2 (wrap64 ((wrap64 (a2 * a0_0)) + a1)))) else (none)) else (none)) else (some false)) else (some false)) else (some false)) else (some false)) else (some false))
set_option maxHeartbeats 8000000 in
set_option maxRecDepth 100000 in
theorem barscanref31_At.calls (a0_0 : Int) (a0_1 : Int) (A0_2 : Option Addr) (c0_2 : Nat) (l0_2 : List Bool) (a1 : Int) (a2 : Int) (r : Bool) (w : World) (hr0_2 : Kd.C Kd.bool w A0_2 l0_2.length l0_2) (hc0_2 : l0_2.length ≤ c0_2) (h : barscanref31_At.f a0_0 a0_1 l0_2 a1 a2 = some r) :
  Calls Try.prog 35 #[.agg #[.int .i64 a0_0, .int .i64 a0_1, .slice A0_2 l0_2.length c0_2], .int .i64 a1, .int .i64 a2] w fun e w' => e = .returned (.bool r) ∧ Below w.heap.size w w' := by
 have hu24 := Try.underlying24
 have HR0_2 := Aside0.mk hr0_2
 have HC0_2 := Aside0.mk hc0_2
 clear hr0_2 hc0_2
 have HB := Aside0.mk (Below.refl w.heap.size w)
 have H : ((barscanref31_Valid.f a0_0 a0_1 l0_2).bind fun t209 => (if t209 = true then (if a1 ≥ 0 then (if a1 < a0_0 then (if a2 ≥ 0 then (if a2 < a0_1 then (if 0 ≤ (wrap64 ((wrap64 (a2 * a0_0)) + a1)) then (if (wrap64 ((wrap64 (a2 * a0_0)) + a1)) < (l0_2.length : Int) then (some (rdOf false l0_2 (wrap64 ((wrap64 (a2 * a0_0)) + a1)))) else (none)) else (none)) else (some false)) else (some false)) else (some false)) else (some false)) else (some false))) = some r := h
 clear h
 replace H := Option.bind_eq_some_iff.mp H
 obtain ⟨t209, A40, H⟩ := H
 replace H : (if t209 = true then (if a1 ≥ 0 then (if a1 < a0_0 then (if a2 ≥ 0 then (if a2 < a0_1 then (if 0 ≤ (wrap64 ((wrap64 (a2 * a0_0)) + a1)) then (if (wrap64 ((wrap64 (a2 * a0_0)) + a1)) < (l0_2.length : Int) then (some (rdOf false l0_2 (wrap64 ((wrap64 (a2 * a0_0)) + a1)))) else (none)) else (none)) else (some false)) else (some false)) else (some false)) else (some false)) else (some false)) = some r := H
 have A4 := Aside0.mk A40
 clear A40
 by_cases c5 : t209 = true
 ·subst c5
  have H1 : (if a1 ≥ 0 then (if a1 < a0_0 then (if a2 ≥ 0 then (if a2 < a0_1 then (if 0 ≤ (wrap64 ((wrap64 (a2 * a0_0)) + a1)) then (if (wrap64 ((wrap64 (a2 * a0_0)) + a1)) < (l0_2.length : Int) then (some (rdOf false l0_2 (wrap64 ((wrap64 (a2 * a0_0)) + a1)))) else (none)) else (none)) else (some false)) else (some false)) else (some false)) else (some false)) = some r := by rw [if_pos rfl] at H; exact H
  clear H
  have H := H1
  clear H1
  by_cases c6 : a1 ≥ 0
  ·rw [if_pos c6] at H
   have c6b0 : decide (0 ≤ a1) = true := decide_eq_true c6
   clear c6
   by_cases c7 : a1 < a0_0
   ·rw [if_pos c7] at H
    have c7b0 : decide (a1 < a0_0) = true := decide_eq_true c7
    clear c7
    by_cases c8 : a2 ≥ 0
    ·rw [if_pos c8] at H
     have c8b0 : decide (0 ≤ a2) = true := decide_eq_true c8
     clear c8
     by_cases c9 : a2 < a0_1
     ·rw [if_pos c9] at H
      have c9b0 : decide (a2 < a0_1) = true := decide_eq_true c9
      clear c9
      obtain ⟨ji10, hji10⟩ : ∃ j_ : Int, (wrap64 ((wrap64 (a2 * a0_0)) + a1)) = j_ := ⟨_, rfl⟩
      replace H : (if 0 ≤ (ji10) then (if (ji10) < (l0_2.length : Int) then (some (rdOf false l0_2 (ji10))) else (none)) else (none)) = some r := by first | (rw [hji10] at H; exact H) | (simp only [hji10] at H ⊢; exact H)
      (try rw [hji10] at A4)
      have hji10w : (IntKind.i64.wrap ((wrap64 (a2 * a0_0)) + a1)) = ji10 := (i64_w _).trans hji10
      by_cases c11 : 0 ≤ (ji10)
      ·rw [if_pos c11] at H
       have c11b0 : decide (0 ≤ (ji10)) = true := decide_eq_true c11
       clear c11
       by_cases c12 : (ji10) < (l0_2.length : Int)
       ·rw [if_pos c12] at H
        have c12b0 : decide ((ji10) < (l0_2.length : Int)) = true := decide_eq_true c12
        clear c12
        obtain rfl := Option.some.inj H
        go_enter Try.func35, Try.ntmps35
        go_wp2_with (first | ((with_reducible refine gate_dst (N := 3) rfl ?_); refine box_event ?hg (N := 3) ?hd (cs := #[.int .i64 a0_0, .int .i64 a0_1, .slice A0_2 l0_2.length c0_2]) (t := 24) ?hr ?_; (case hd => rfl); (case hg => rfl); (case hr => first | (go_simp; done) | (go_simp; rfl)); intro gb208 hg w13 hbox hb; have n0_ := Aside0.mk (below_step (hb0 HB) hb); have n1_ := Aside0.mk (hbox); have n2_ := Aside0.mk ((by rw [hg]; exact (below_size (hb0 HB)) : w.heap.size ≤ gb208)); have n3_ := Aside0.mk ((by rw [hg]; exact (below_size (hb0 HB)) : w.heap.size ≤ gb208)); clear HB; have HB := n0_; have BK208 := n1_; have GW208 := n2_; have GE208 := n3_; clear n0_ n1_ n2_ n3_; clear hb hbox hg; have hcz14_0 : w13.cell? ⟨gb208, 0, none⟩ = some (.int .i64 a0_0) := (blk_cell BK208.out 0).trans rfl; have hcz14_1 : w13.cell? ⟨gb208, 1, none⟩ = some (.int .i64 a0_1) := (blk_cell BK208.out 1).trans rfl; have hcz14_2 : w13.cell? ⟨gb208, 2, none⟩ = some (.slice A0_2 l0_2.length c0_2) := (blk_cell BK208.out 2).trans rfl; have hfz14_0 := blk_frozen BK208.out 0; have hfz14_1 := blk_frozen BK208.out 1; have hfz14_2 := blk_frozen BK208.out 2) | ((with_reducible refine gate_callee (f := 26) rfl ?_); refine goesL_ (some 8) rfl rfl Try.func26 (by kernel_rfl) rfl #[.agg #[.int .i64 a0_0, .int .i64 a0_1, .slice A0_2 l0_2.length c0_2]] rfl mapx ?_; (with_reducible refine (barscanref31_Valid.calls a0_0 a0_1 _ _ l0_2 true _ ?side1 ?side2 A4.out).mono ?_); (case side1 => repeat (first | exact (Kd.C_below HR0_2.out HB.out) | (with_reducible refine Kd.C_alloc ?_ _) | (with_reducible refine Kd.C_drewN ?_ _) | (with_reducible refine Kd.C_drew ?_))); (case side2 => exact HC0_2.out); rintro e w15 ⟨rfl, hb⟩; refine ⟨_, rfl, ?_⟩; have n0_ := Aside0.mk (blk_below (bkx BK208) hb); have n1_ := Aside0.mk (below_step (hb1 HB GE208) hb); clear BK208; clear HB; have BK208 := n0_; have HB := n1_; clear n0_ n1_; (try clear hb); (try clear hb2); (try clear hk); (try clear hi); have hcz16_0 : w15.cell? ⟨gb208, 0, none⟩ = some (.int .i64 a0_0) := (blk_cell BK208.out 0).trans rfl; have hcz16_1 : w15.cell? ⟨gb208, 1, none⟩ = some (.int .i64 a0_1) := (blk_cell BK208.out 1).trans rfl; have hcz16_2 : w15.cell? ⟨gb208, 2, none⟩ = some (.slice A0_2 l0_2.length c0_2) := (blk_cell BK208.out 2).trans rfl; have hfz16_0 := blk_frozen BK208.out 0; have hfz16_1 := blk_frozen BK208.out 1; have hfz16_2 := blk_frozen BK208.out 2; have p210 : 0 ≤ ((ji10) : Int) := of_decide_eq_true (by first | (with_reducible assumption) | assumption); have q210 : (ji10) < (l0_2.length : Int) := of_decide_eq_true (by first | (with_reducible assumption) | assumption); obtain ⟨ad210, e210, hx210_0⟩ := Kd.at_bool HR0_2.out (ji10) p210 q210; cases e210; replace hx210_0 := (HB.out.cell (World.block_lt_of_cell? w _ hx210_0)).trans hx210_0; replace p210 := eq_true p210; replace q210 := eq_true q210))
        go_ret
        exact ⟨by first | rfl | (simp [errW_none, errW_some] <;> rfl) | (simp only [← hji10]; first | rfl | (simp [errW_none, errW_some] <;> rfl)) | (simp [*, errW_none, errW_some] <;> rfl), by repeat (first | (with_reducible first | exact HB.out | apply below_alloc | apply pw_below_drewN | apply below_drew1 | refine below_set ?_ GE208.out) | exact HB.out)⟩
       ·rw [if_neg c12] at H
        exact absurd H (by simp)
      ·rw [if_neg c11] at H
       exact absurd H (by simp)
     ·rw [if_neg c9] at H
      have c9b0 : decide (a2 < a0_1) = false := decide_eq_false c9
      clear c9
      obtain rfl := Option.some.inj H
      go_enter Try.func35, Try.ntmps35
      go_wp2_with (first | ((with_reducible refine gate_dst (N := 3) rfl ?_); refine box_event ?hg (N := 3) ?hd (cs := #[.int .i64 a0_0, .int .i64 a0_1, .slice A0_2 l0_2.length c0_2]) (t := 24) ?hr ?_; (case hd => rfl); (case hg => rfl); (case hr => first | (go_simp; done) | (go_simp; rfl)); intro gb208 hg w17 hbox hb; have n0_ := Aside0.mk (below_step (hb0 HB) hb); have n1_ := Aside0.mk (hbox); have n2_ := Aside0.mk ((by rw [hg]; exact (below_size (hb0 HB)) : w.heap.size ≤ gb208)); have n3_ := Aside0.mk ((by rw [hg]; exact (below_size (hb0 HB)) : w.heap.size ≤ gb208)); clear HB; have HB := n0_; have BK208 := n1_; have GW208 := n2_; have GE208 := n3_; clear n0_ n1_ n2_ n3_; clear hb hbox hg; have hcz18_0 : w17.cell? ⟨gb208, 0, none⟩ = some (.int .i64 a0_0) := (blk_cell BK208.out 0).trans rfl; have hcz18_1 : w17.cell? ⟨gb208, 1, none⟩ = some (.int .i64 a0_1) := (blk_cell BK208.out 1).trans rfl; have hcz18_2 : w17.cell? ⟨gb208, 2, none⟩ = some (.slice A0_2 l0_2.length c0_2) := (blk_cell BK208.out 2).trans rfl; have hfz18_0 := blk_frozen BK208.out 0; have hfz18_1 := blk_frozen BK208.out 1; have hfz18_2 := blk_frozen BK208.out 2) | ((with_reducible refine gate_callee (f := 26) rfl ?_); refine goesL_ (some 8) rfl rfl Try.func26 (by kernel_rfl) rfl #[.agg #[.int .i64 a0_0, .int .i64 a0_1, .slice A0_2 l0_2.length c0_2]] rfl mapx ?_; (with_reducible refine (barscanref31_Valid.calls a0_0 a0_1 _ _ l0_2 true _ ?side1 ?side2 A4.out).mono ?_); (case side1 => repeat (first | exact (Kd.C_below HR0_2.out HB.out) | (with_reducible refine Kd.C_alloc ?_ _) | (with_reducible refine Kd.C_drewN ?_ _) | (with_reducible refine Kd.C_drew ?_))); (case side2 => exact HC0_2.out); rintro e w19 ⟨rfl, hb⟩; refine ⟨_, rfl, ?_⟩; have n0_ := Aside0.mk (blk_below (bkx BK208) hb); have n1_ := Aside0.mk (below_step (hb1 HB GE208) hb); clear BK208; clear HB; have BK208 := n0_; have HB := n1_; clear n0_ n1_; (try clear hb); (try clear hb2); (try clear hk); (try clear hi); have hcz20_0 : w19.cell? ⟨gb208, 0, none⟩ = some (.int .i64 a0_0) := (blk_cell BK208.out 0).trans rfl; have hcz20_1 : w19.cell? ⟨gb208, 1, none⟩ = some (.int .i64 a0_1) := (blk_cell BK208.out 1).trans rfl; have hcz20_2 : w19.cell? ⟨gb208, 2, none⟩ = some (.slice A0_2 l0_2.length c0_2) := (blk_cell BK208.out 2).trans rfl; have hfz20_0 := blk_frozen BK208.out 0; have hfz20_1 := blk_frozen BK208.out 1; have hfz20_2 := blk_frozen BK208.out 2))
      go_ret
      exact ⟨by first | rfl | (simp [errW_none, errW_some] <;> rfl) | (simp [*, errW_none, errW_some] <;> rfl), by repeat (first | (with_reducible first | exact HB.out | apply below_alloc | apply pw_below_drewN | apply below_drew1 | refine below_set ?_ GE208.out) | exact HB.out)⟩
    ·rw [if_neg c8] at H
     have c8b0 : decide (0 ≤ a2) = false := decide_eq_false c8
     clear c8
     obtain rfl := Option.some.inj H
     go_enter Try.func35, Try.ntmps35
     go_wp2_with (first | ((with_reducible refine gate_dst (N := 3) rfl ?_); refine box_event ?hg (N := 3) ?hd (cs := #[.int .i64 a0_0, .int .i64 a0_1, .slice A0_2 l0_2.length c0_2]) (t := 24) ?hr ?_; (case hd => rfl); (case hg => rfl); (case hr => first | (go_simp; done) | (go_simp; rfl)); intro gb208 hg w21 hbox hb; have n0_ := Aside0.mk (below_step (hb0 HB) hb); have n1_ := Aside0.mk (hbox); have n2_ := Aside0.mk ((by rw [hg]; exact (below_size (hb0 HB)) : w.heap.size ≤ gb208)); have n3_ := Aside0.mk ((by rw [hg]; exact (below_size (hb0 HB)) : w.heap.size ≤ gb208)); clear HB; have HB := n0_; have BK208 := n1_; have GW208 := n2_; have GE208 := n3_; clear n0_ n1_ n2_ n3_; clear hb hbox hg; have hcz22_0 : w21.cell? ⟨gb208, 0, none⟩ = some (.int .i64 a0_0) := (blk_cell BK208.out 0).trans rfl; have hcz22_1 : w21.cell? ⟨gb208, 1, none⟩ = some (.int .i64 a0_1) := (blk_cell BK208.out 1).trans rfl; have hcz22_2 : w21.cell? ⟨gb208, 2, none⟩ = some (.slice A0_2 l0_2.length c0_2) := (blk_cell BK208.out 2).trans rfl; have hfz22_0 := blk_frozen BK208.out 0; have hfz22_1 := blk_frozen BK208.out 1; have hfz22_2 := blk_frozen BK208.out 2) | ((with_reducible refine gate_callee (f := 26) rfl ?_); refine goesL_ (some 8) rfl rfl Try.func26 (by kernel_rfl) rfl #[.agg #[.int .i64 a0_0, .int .i64 a0_1, .slice A0_2 l0_2.length c0_2]] rfl mapx ?_; (with_reducible refine (barscanref31_Valid.calls a0_0 a0_1 _ _ l0_2 true _ ?side1 ?side2 A4.out).mono ?_); (case side1 => repeat (first | exact (Kd.C_below HR0_2.out HB.out) | (with_reducible refine Kd.C_alloc ?_ _) | (with_reducible refine Kd.C_drewN ?_ _) | (with_reducible refine Kd.C_drew ?_))); (case side2 => exact HC0_2.out); rintro e w23 ⟨rfl, hb⟩; refine ⟨_, rfl, ?_⟩; have n0_ := Aside0.mk (blk_below (bkx BK208) hb); have n1_ := Aside0.mk (below_step (hb1 HB GE208) hb); clear BK208; clear HB; have BK208 := n0_; have HB := n1_; clear n0_ n1_; (try clear hb); (try clear hb2); (try clear hk); (try clear hi); have hcz24_0 : w23.cell? ⟨gb208, 0, none⟩ = some (.int .i64 a0_0) := (blk_cell BK208.out 0).trans rfl; have hcz24_1 : w23.cell? ⟨gb208, 1, none⟩ = some (.int .i64 a0_1) := (blk_cell BK208.out 1).trans rfl; have hcz24_2 : w23.cell? ⟨gb208, 2, none⟩ = some (.slice A0_2 l0_2.length c0_2) := (blk_cell BK208.out 2).trans rfl; have hfz24_0 := blk_frozen BK208.out 0; have hfz24_1 := blk_frozen BK208.out 1; have hfz24_2 := blk_frozen BK208.out 2))
     go_ret
     exact ⟨by first | rfl | (simp [errW_none, errW_some] <;> rfl) | (simp [*, errW_none, errW_some] <;> rfl), by repeat (first | (with_reducible first | exact HB.out | apply below_alloc | apply pw_below_drewN | apply below_drew1 | refine below_set ?_ GE208.out) | exact HB.out)⟩
   ·rw [if_neg c7] at H
    have c7b0 : decide (a1 < a0_0) = false := decide_eq_false c7
    clear c7
    obtain rfl := Option.some.inj H
    go_enter Try.func35, Try.ntmps35
    go_wp2_with (first | ((with_reducible refine gate_dst (N := 3) rfl ?_); refine box_event ?hg (N := 3) ?hd (cs := #[.int .i64 a0_0, .int .i64 a0_1, .slice A0_2 l0_2.length c0_2]) (t := 24) ?hr ?_; (case hd => rfl); (case hg => rfl); (case hr => first | (go_simp; done) | (go_simp; rfl)); intro gb208 hg w25 hbox hb; have n0_ := Aside0.mk (below_step (hb0 HB) hb); have n1_ := Aside0.mk (hbox); have n2_ := Aside0.mk ((by rw [hg]; exact (below_size (hb0 HB)) : w.heap.size ≤ gb208)); have n3_ := Aside0.mk ((by rw [hg]; exact (below_size (hb0 HB)) : w.heap.size ≤ gb208)); clear HB; have HB := n0_; have BK208 := n1_; have GW208 := n2_; have GE208 := n3_; clear n0_ n1_ n2_ n3_; clear hb hbox hg; have hcz26_0 : w25.cell? ⟨gb208, 0, none⟩ = some (.int .i64 a0_0) := (blk_cell BK208.out 0).trans rfl; have hcz26_1 : w25.cell? ⟨gb208, 1, none⟩ = some (.int .i64 a0_1) := (blk_cell BK208.out 1).trans rfl; have hcz26_2 : w25.cell? ⟨gb208, 2, none⟩ = some (.slice A0_2 l0_2.length c0_2) := (blk_cell BK208.out 2).trans rfl; have hfz26_0 := blk_frozen BK208.out 0; have hfz26_1 := blk_frozen BK208.out 1; have hfz26_2 := blk_frozen BK208.out 2) | ((with_reducible refine gate_callee (f := 26) rfl ?_); refine goesL_ (some 8) rfl rfl Try.func26 (by kernel_rfl) rfl #[.agg #[.int .i64 a0_0, .int .i64 a0_1, .slice A0_2 l0_2.length c0_2]] rfl mapx ?_; (with_reducible refine (barscanref31_Valid.calls a0_0 a0_1 _ _ l0_2 true _ ?side1 ?side2 A4.out).mono ?_); (case side1 => repeat (first | exact (Kd.C_below HR0_2.out HB.out) | (with_reducible refine Kd.C_alloc ?_ _) | (with_reducible refine Kd.C_drewN ?_ _) | (with_reducible refine Kd.C_drew ?_))); (case side2 => exact HC0_2.out); rintro e w27 ⟨rfl, hb⟩; refine ⟨_, rfl, ?_⟩; have n0_ := Aside0.mk (blk_below (bkx BK208) hb); have n1_ := Aside0.mk (below_step (hb1 HB GE208) hb); clear BK208; clear HB; have BK208 := n0_; have HB := n1_; clear n0_ n1_; (try clear hb); (try clear hb2); (try clear hk); (try clear hi); have hcz28_0 : w27.cell? ⟨gb208, 0, none⟩ = some (.int .i64 a0_0) := (blk_cell BK208.out 0).trans rfl; have hcz28_1 : w27.cell? ⟨gb208, 1, none⟩ = some (.int .i64 a0_1) := (blk_cell BK208.out 1).trans rfl; have hcz28_2 : w27.cell? ⟨gb208, 2, none⟩ = some (.slice A0_2 l0_2.length c0_2) := (blk_cell BK208.out 2).trans rfl; have hfz28_0 := blk_frozen BK208.out 0; have hfz28_1 := blk_frozen BK208.out 1; have hfz28_2 := blk_frozen BK208.out 2))
    go_ret
    exact ⟨by first | rfl | (simp [errW_none, errW_some] <;> rfl) | (simp [*, errW_none, errW_some] <;> rfl), by repeat (first | (with_reducible first | exact HB.out | apply below_alloc | apply pw_below_drewN | apply below_drew1 | refine below_set ?_ GE208.out) | exact HB.out)⟩
  ·rw [if_neg c6] at H
   have c6b0 : decide (0 ≤ a1) = false := decide_eq_false c6
   clear c6
   obtain rfl := Option.some.inj H
   go_enter Try.func35, Try.ntmps35
   go_wp2_with (first | ((with_reducible refine gate_dst (N := 3) rfl ?_); refine box_event ?hg (N := 3) ?hd (cs := #[.int .i64 a0_0, .int .i64 a0_1, .slice A0_2 l0_2.length c0_2]) (t := 24) ?hr ?_; (case hd => rfl); (case hg => rfl); (case hr => first | (go_simp; done) | (go_simp; rfl)); intro gb208 hg w29 hbox hb; have n0_ := Aside0.mk (below_step (hb0 HB) hb); have n1_ := Aside0.mk (hbox); have n2_ := Aside0.mk ((by rw [hg]; exact (below_size (hb0 HB)) : w.heap.size ≤ gb208)); have n3_ := Aside0.mk ((by rw [hg]; exact (below_size (hb0 HB)) : w.heap.size ≤ gb208)); clear HB; have HB := n0_; have BK208 := n1_; have GW208 := n2_; have GE208 := n3_; clear n0_ n1_ n2_ n3_; clear hb hbox hg; have hcz30_0 : w29.cell? ⟨gb208, 0, none⟩ = some (.int .i64 a0_0) := (blk_cell BK208.out 0).trans rfl; have hcz30_1 : w29.cell? ⟨gb208, 1, none⟩ = some (.int .i64 a0_1) := (blk_cell BK208.out 1).trans rfl; have hcz30_2 : w29.cell? ⟨gb208, 2, none⟩ = some (.slice A0_2 l0_2.length c0_2) := (blk_cell BK208.out 2).trans rfl; have hfz30_0 := blk_frozen BK208.out 0; have hfz30_1 := blk_frozen BK208.out 1; have hfz30_2 := blk_frozen BK208.out 2) | ((with_reducible refine gate_callee (f := 26) rfl ?_); refine goesL_ (some 8) rfl rfl Try.func26 (by kernel_rfl) rfl #[.agg #[.int .i64 a0_0, .int .i64 a0_1, .slice A0_2 l0_2.length c0_2]] rfl mapx ?_; (with_reducible refine (barscanref31_Valid.calls a0_0 a0_1 _ _ l0_2 true _ ?side1 ?side2 A4.out).mono ?_); (case side1 => repeat (first | exact (Kd.C_below HR0_2.out HB.out) | (with_reducible refine Kd.C_alloc ?_ _) | (with_reducible refine Kd.C_drewN ?_ _) | (with_reducible refine Kd.C_drew ?_))); (case side2 => exact HC0_2.out); rintro e w31 ⟨rfl, hb⟩; refine ⟨_, rfl, ?_⟩; have n0_ := Aside0.mk (blk_below (bkx BK208) hb); have n1_ := Aside0.mk (below_step (hb1 HB GE208) hb); clear BK208; clear HB; have BK208 := n0_; have HB := n1_; clear n0_ n1_; (try clear hb); (try clear hb2); (try clear hk); (try clear hi)))
   go_ret
   exact ⟨by first | rfl | (simp [errW_none, errW_some] <;> rfl) | (simp [*, errW_none, errW_some] <;> rfl), by repeat (first | (with_reducible first | exact HB.out | apply below_alloc | apply pw_below_drewN | apply below_drew1 | refine below_set ?_ GE208.out) | exact HB.out)⟩
 ·replace c5 := Bool.eq_false_iff.mpr c5
  subst c5
  have H1 : (some false) = some r := by rw [if_neg (show ¬ (false = true) by decide)] at H; exact H
  clear H
  have H := H1
  clear H1
  obtain rfl := Option.some.inj H
  go_enter Try.func35, Try.ntmps35
  go_wp2_with (first | ((with_reducible refine gate_dst (N := 3) rfl ?_); refine box_event ?hg (N := 3) ?hd (cs := #[.int .i64 a0_0, .int .i64 a0_1, .slice A0_2 l0_2.length c0_2]) (t := 24) ?hr ?_; (case hd => rfl); (case hg => rfl); (case hr => first | (go_simp; done) | (go_simp; rfl)); intro gb208 hg w32 hbox hb; have n0_ := Aside0.mk (below_step (hb0 HB) hb); have n1_ := Aside0.mk (hbox); have n2_ := Aside0.mk ((by rw [hg]; exact (below_size (hb0 HB)) : w.heap.size ≤ gb208)); have n3_ := Aside0.mk ((by rw [hg]; exact (below_size (hb0 HB)) : w.heap.size ≤ gb208)); clear HB; have HB := n0_; have BK208 := n1_; have GW208 := n2_; have GE208 := n3_; clear n0_ n1_ n2_ n3_; clear hb hbox hg; have hcz33_0 : w32.cell? ⟨gb208, 0, none⟩ = some (.int .i64 a0_0) := (blk_cell BK208.out 0).trans rfl; have hcz33_1 : w32.cell? ⟨gb208, 1, none⟩ = some (.int .i64 a0_1) := (blk_cell BK208.out 1).trans rfl; have hcz33_2 : w32.cell? ⟨gb208, 2, none⟩ = some (.slice A0_2 l0_2.length c0_2) := (blk_cell BK208.out 2).trans rfl; have hfz33_0 := blk_frozen BK208.out 0; have hfz33_1 := blk_frozen BK208.out 1; have hfz33_2 := blk_frozen BK208.out 2) | ((with_reducible refine gate_callee (f := 26) rfl ?_); refine goesL_ (some 8) rfl rfl Try.func26 (by kernel_rfl) rfl #[.agg #[.int .i64 a0_0, .int .i64 a0_1, .slice A0_2 l0_2.length c0_2]] rfl mapx ?_; (with_reducible refine (barscanref31_Valid.calls a0_0 a0_1 _ _ l0_2 false _ ?side1 ?side2 A4.out).mono ?_); (case side1 => repeat (first | exact (Kd.C_below HR0_2.out HB.out) | (with_reducible refine Kd.C_alloc ?_ _) | (with_reducible refine Kd.C_drewN ?_ _) | (with_reducible refine Kd.C_drew ?_))); (case side2 => exact HC0_2.out); rintro e w34 ⟨rfl, hb⟩; refine ⟨_, rfl, ?_⟩; have n0_ := Aside0.mk (blk_below (bkx BK208) hb); have n1_ := Aside0.mk (below_step (hb1 HB GE208) hb); clear BK208; clear HB; have BK208 := n0_; have HB := n1_; clear n0_ n1_; (try clear hb); (try clear hb2); (try clear hk); (try clear hi)))
  go_ret
  exact ⟨by first | rfl | (simp [errW_none, errW_some] <;> rfl) | (simp [*, errW_none, errW_some] <;> rfl), by repeat (first | (with_reducible first | exact HB.out | apply below_alloc | apply pw_below_drewN | apply below_drew1 | refine below_set ?_ GE208.out) | exact HB.out)⟩

/-! ### barscanref31_near: function 47 -/
def barscanref31_near.f (a0 : Int) : Option (Int) := some (mx (-10000) (mn 10000 a0))
set_option maxHeartbeats 8000000 in
set_option maxRecDepth 100000 in
theorem barscanref31_near.calls (a0 : Int) (r : Int) (w : World) (h : barscanref31_near.f a0 = some r) :
  Calls Try.prog 47 #[.int .i64 a0] w fun e w' => e = .returned (.int .i64 r) ∧ Below w.heap.size w w' := by
 have HB := Aside0.mk (Below.refl w.heap.size w)
 have H : (some (mx (-10000) (mn 10000 a0))) = some r := h
 clear h
 obtain ⟨ji2, hji2⟩ : ∃ j_ : Int, (mn 10000 a0) = j_ := ⟨_, rfl⟩
 replace H : (some (mx (-10000) (ji2))) = some r := by first | (rw [hji2] at H; exact H) | (simp only [hji2] at H ⊢; exact H)
 (try (have hji2h : ji2 ≤ 10000 := by (rw [← hji2]; unfold mn; (repeat' split) <;> omega)))
 (try (have hji2g : ji2 ≤ 64 := by omega))
 have hji2_ : (if a0 < 10000 then a0 else 10000) = ji2 := hji2
 obtain ⟨ji3, hji3⟩ : ∃ j_ : Int, (mx (-10000) (ji2)) = j_ := ⟨_, rfl⟩
 replace H : (some ji3) = some r := by first | (rw [hji3] at H; exact H) | (simp only [hji3] at H ⊢; exact H)
 have hji3_ : (if (-10000) < (ji2) then (ji2) else (-10000)) = ji3 := hji3
 obtain rfl := Option.some.inj H
 go_enter Try.func47, Try.ntmps47
 go_wp2
 go_ret
 exact ⟨by first | rfl | (simp [errW_none, errW_some] <;> rfl) | (simp only [← hji2, ← hji3]; first | rfl | (simp [errW_none, errW_some] <;> rfl)) | (simp [*, errW_none, errW_some] <;> rfl), by repeat (first | (with_reducible first | exact HB.out | apply below_alloc | apply pw_below_drewN | apply below_drew1) | exact HB.out)⟩

end Go.Proofs.Ytcmcmoaikabfoaa.PR
