-- Written by this session's own program (myprint.py).
import Derived.Test.YtbipbbckfmilfaaPRx0
import Derived.Test.YtbipbbckfmilfaaPRx1
import Derived.Test.YtbipbbckfmilfaaPRx3
namespace Go.Proofs.Ytbipbbckfmilfaa.PR
open Go.RowKit Go.Proofs.YtbipbbckfmilfaaW.PrintWords Go.Proofs.YtbipbbckfmilfaaW.PrintLast Go.Proofs.YtbipbbckfmilfaaW.PrintMore Go.Proofs.Ytbipbbckfmilfaa.XWords Go.Proofs.Ytbipbbckfmilfaa.XShort Go.Proofs.Ytbipbbckfmilfaa.XFn
attribute [local go_sem] max2_int min2_int max_two min_two max_three min_three max_four min_four   -- for this text's walks alone
set_option linter.unusedVariables false
set_option linter.unusedSimpArgs false

/-! ### printing_Blur: function 11 -/
mutual
def printing_Blur.l0 : Nat → Int → Int → List Int → Int → Int → Int → Int → List Int → Option (Int × Int × List Int × Int)
 | 0, _, _, _, _, _, _, _, _ => none
 | k + 1, x1, x6, x7, x38, x39, x128000, x128001, x128002 => if x39 < x38 then (if 0 ≤ x128000 then (if (x128000 : Int).toNat ≤ 35184372088832 then ((some (List.replicate (x128000 : Int).toNat 0 : List Int)).bind fun y133 => (printing_Blur.l1 k x1 x6 x7 x39 y133 x38 x39 (y133.length : Int) 0 x128000 x128001 x128002)) else (none)) else (none)) else (if 0 ≤ (x128002.length : Int) then (if ((x128002.length : Int) : Int).toNat ≤ 281474976710656 then (printing_Blur.l2 k x1 x6 x7 x128000 0 x128000 x128001 x128002 x128000 x128001 (List.replicate ((x128002.length : Int) : Int).toNat 0)) else (none)) else (none))
def printing_Blur.l1 : Nat → Int → Int → List Int → Int → List Int → Int → Int → Int → Int → Int → Int → List Int → Option (Int × Int × List Int × Int)
 | 0, _, _, _, _, _, _, _, _, _, _, _, _ => none
 | k + 1, x1, x6, x7, x8, x9, x38, x39, x46, x47, x128000, x128001, x128002 => if x47 < x46 then (if 0 ≤ (wrap64 ((wrap64 (x8 * x128000)) + x47)) then (if (wrap64 ((wrap64 (x8 * x128000)) + x47)) < (x128002.length : Int) then (if 0 ≤ x47 then (if x47 < (x9.length : Int) then (printing_Blur.l1 k x1 x6 x7 x8 (x9.set (x47 : Int).toNat (wrap64 (rd x128002 (wrap64 ((wrap64 (x8 * x128000)) + x47))))) x38 x39 x46 (wrap64 (x47 + 1)) x128000 x128001 x128002) else (none)) else (none)) else (none)) else (none)) else (if 0 ≤ (wrap64 (x8 * x128000)) then (if (wrap64 (x8 * x128000)) ≤ (x7.length : Int) then ((printing_window.f k x9 x1 255).bind fun t142 => (printing_Blur.l0 k x1 x6 (copyIn x7 (((wrap64 (x8 * x128000)) : Int).toNat) (x7.length - ((wrap64 (x8 * x128000)) : Int).toNat) t142) x38 (wrap64 (x39 + 1)) x128000 x128001 x128002)) else (none)) else (none))
def printing_Blur.l2 : Nat → Int → Int → List Int → Int → Int → Int → Int → List Int → Int → Int → List Int → Option (Int × Int × List Int × Int)
 | 0, _, _, _, _, _, _, _, _, _, _, _ => none
 | k + 1, x1, x6, x7, x86, x87, x128000, x128001, x128002, x150000, x150001, x150002 => if x87 < x86 then (if 0 ≤ x128001 then (if (x128001 : Int).toNat ≤ 35184372088832 then ((some (List.replicate (x128001 : Int).toNat 0 : List Int)).bind fun y150 => (printing_Blur.l3 k x1 x6 x7 x87 y150 x86 x87 (y150.length : Int) 0 x128000 x128001 x128002 x150000 x150001 x150002)) else (none)) else (none)) else (some (x150000, x150001, x150002, 0))
def printing_Blur.l3 : Nat → Int → Int → List Int → Int → List Int → Int → Int → Int → Int → Int → Int → List Int → Int → Int → List Int → Option (Int × Int × List Int × Int)
 | 0, _, _, _, _, _, _, _, _, _, _, _, _, _, _, _ => none
 | k + 1, x1, x6, x7, x12, x13, x86, x87, x94, x95, x128000, x128001, x128002, x150000, x150001, x150002 => if x95 < x94 then (if 0 ≤ (wrap64 ((wrap64 (x95 * x128000)) + x12)) then (if (wrap64 ((wrap64 (x95 * x128000)) + x12)) < (x7.length : Int) then (if 0 ≤ x95 then (if x95 < (x13.length : Int) then (printing_Blur.l3 k x1 x6 x7 x12 (x13.set (x95 : Int).toNat (rd x7 (wrap64 ((wrap64 (x95 * x128000)) + x12)))) x86 x87 x94 (wrap64 (x95 + 1)) x128000 x128001 x128002 x150000 x150001 x150002) else (none)) else (none)) else (none)) else (none)) else ((printing_window.f k x13 x1 (wrap64 (255 * x6))).bind fun t155 => (printing_Blur.l4 k x1 x6 x7 x12 x86 x87 t155 (t155.length : Int) 0 x128000 x128001 x128002 x150000 x150001 x150002))
def printing_Blur.l4 : Nat → Int → Int → List Int → Int → Int → Int → List Int → Int → Int → Int → Int → List Int → Int → Int → List Int → Option (Int × Int × List Int × Int)
 | 0, _, _, _, _, _, _, _, _, _, _, _, _, _, _, _ => none
 | k + 1, x1, x6, x7, x12, x86, x87, x115, x116, x117, x128000, x128001, x128002, x150000, x150001, x150002 => if x117 < x116 then (if 0 ≤ x117 then (if x117 < (x115.length : Int) then (if (wrap64 ((wrap64 (2 * x6)) * x6)) = 0 then (none) else (if 0 ≤ (wrap64 ((wrap64 (x117 * x128000)) + x12)) then (if (wrap64 ((wrap64 (x117 * x128000)) + x12)) < (x150002.length : Int) then (printing_Blur.l4 k x1 x6 x7 x12 x86 x87 x115 x116 (wrap64 (x117 + 1)) x128000 x128001 x128002 x150000 x150001 (x150002.set ((wrap64 ((wrap64 (x117 * x128000)) + x12)) : Int).toNat ((wrap64 (Int.tdiv (wrap64 ((wrap64 (2 * (rd x115 x117))) + (wrap64 (x6 * x6)))) (wrap64 ((wrap64 (2 * x6)) * x6)))) % 256))) else (none)) else (none))) else (none)) else (none)) else (printing_Blur.l2 k x1 x6 x7 x86 (wrap64 (x87 + 1)) x128000 x128001 x128002 x150000 x150001 x150002)
end
def printing_Blur.f (k : Nat) (a0_0 : Int) (a0_1 : Int) (l0_2 : List Int) (a1 : Int) : Option (Int × Int × List Int × Int) := (raster_CheckImage.f a0_0 a0_1 l0_2).bind fun t129 => (if t129 = 0 then (if a1 < 0 then (some (0, 0, ([] : List Int), 3)) else (if a1 > 64 then (some (0, 0, ([] : List Int), 3)) else (if 0 ≤ (l0_2.length : Int) then (if ((l0_2.length : Int) : Int).toNat ≤ 35184372088832 then (printing_Blur.l0 k a1 (wrap64 ((wrap64 (2 * a1)) + 1)) (List.replicate ((l0_2.length : Int) : Int).toNat 0) a0_1 0 a0_0 a0_1 l0_2) else (none)) else (none)))) else (some (0, 0, ([] : List Int), 1)))
theorem printing_Blur.mono_l : ∀ k, (∀ y0 y1 y2 y3 y4 y5 y6 y7, LeO (printing_Blur.l0 k y0 y1 y2 y3 y4 y5 y6 y7) (printing_Blur.l0 (k + 1) y0 y1 y2 y3 y4 y5 y6 y7)) ∧ (∀ y0 y1 y2 y3 y4 y5 y6 y7 y8 y9 y10 y11, LeO (printing_Blur.l1 k y0 y1 y2 y3 y4 y5 y6 y7 y8 y9 y10 y11) (printing_Blur.l1 (k + 1) y0 y1 y2 y3 y4 y5 y6 y7 y8 y9 y10 y11)) ∧ (∀ y0 y1 y2 y3 y4 y5 y6 y7 y8 y9 y10, LeO (printing_Blur.l2 k y0 y1 y2 y3 y4 y5 y6 y7 y8 y9 y10) (printing_Blur.l2 (k + 1) y0 y1 y2 y3 y4 y5 y6 y7 y8 y9 y10)) ∧ (∀ y0 y1 y2 y3 y4 y5 y6 y7 y8 y9 y10 y11 y12 y13 y14, LeO (printing_Blur.l3 k y0 y1 y2 y3 y4 y5 y6 y7 y8 y9 y10 y11 y12 y13 y14) (printing_Blur.l3 (k + 1) y0 y1 y2 y3 y4 y5 y6 y7 y8 y9 y10 y11 y12 y13 y14)) ∧ (∀ y0 y1 y2 y3 y4 y5 y6 y7 y8 y9 y10 y11 y12 y13 y14, LeO (printing_Blur.l4 k y0 y1 y2 y3 y4 y5 y6 y7 y8 y9 y10 y11 y12 y13 y14) (printing_Blur.l4 (k + 1) y0 y1 y2 y3 y4 y5 y6 y7 y8 y9 y10 y11 y12 y13 y14))
 | 0 => ⟨fun _ _ _ _ _ _ _ _ r h => by simp [printing_Blur.l0] at h, fun _ _ _ _ _ _ _ _ _ _ _ _ r h => by simp [printing_Blur.l1] at h, fun _ _ _ _ _ _ _ _ _ _ _ r h => by simp [printing_Blur.l2] at h, fun _ _ _ _ _ _ _ _ _ _ _ _ _ _ _ r h => by simp [printing_Blur.l3] at h, fun _ _ _ _ _ _ _ _ _ _ _ _ _ _ _ r h => by simp [printing_Blur.l4] at h⟩
 | k + 1 => by
  obtain ⟨ih0, ih1, ih2, ih3, ih4⟩ := printing_Blur.mono_l k
  refine ⟨?_, ?_, ?_, ?_, ?_⟩
  ·intro y0 y1 y2 y3 y4 y5 y6 y7
   unfold printing_Blur.l0
   repeat' first
   | (with_reducible exact ih0 _ _ _ _ _ _ _ _)
   | (with_reducible exact ih1 _ _ _ _ _ _ _ _ _ _ _ _)
   | (with_reducible exact ih2 _ _ _ _ _ _ _ _ _ _ _)
   | (with_reducible exact ih3 _ _ _ _ _ _ _ _ _ _ _ _ _ _ _)
   | (with_reducible exact ih4 _ _ _ _ _ _ _ _ _ _ _ _ _ _ _)
   | (with_reducible exact printing_window.mono _ _ _ _)
   | (with_reducible exact LeO.refl _)
   | (with_reducible exact LeO.none _)
   | (with_reducible refine LeO.ite ?_ ?_)
   | (with_reducible refine LeO.bind ?_ (fun _ => ?_))
   | exact ih0 _ _ _ _ _ _ _ _
   | exact ih1 _ _ _ _ _ _ _ _ _ _ _ _
   | exact ih2 _ _ _ _ _ _ _ _ _ _ _
   | exact ih3 _ _ _ _ _ _ _ _ _ _ _ _ _ _ _
   | exact ih4 _ _ _ _ _ _ _ _ _ _ _ _ _ _ _
   | exact printing_window.mono _ _ _ _
   | exact LeO.none _
   | refine LeO.ite ?_ ?_
   | refine LeO.bind ?_ (fun _ => ?_)
  ·intro y0 y1 y2 y3 y4 y5 y6 y7 y8 y9 y10 y11
   unfold printing_Blur.l1
   repeat' first
   | (with_reducible exact ih0 _ _ _ _ _ _ _ _)
   | (with_reducible exact ih1 _ _ _ _ _ _ _ _ _ _ _ _)
   | (with_reducible exact ih2 _ _ _ _ _ _ _ _ _ _ _)
   | (with_reducible exact ih3 _ _ _ _ _ _ _ _ _ _ _ _ _ _ _)
   | (with_reducible exact ih4 _ _ _ _ _ _ _ _ _ _ _ _ _ _ _)
   | (with_reducible exact printing_window.mono _ _ _ _)
   | (with_reducible exact LeO.refl _)
   | (with_reducible exact LeO.none _)
   | (with_reducible refine LeO.ite ?_ ?_)
   | (with_reducible refine LeO.bind ?_ (fun _ => ?_))
   | exact ih0 _ _ _ _ _ _ _ _
   | exact ih1 _ _ _ _ _ _ _ _ _ _ _ _
   | exact ih2 _ _ _ _ _ _ _ _ _ _ _
   | exact ih3 _ _ _ _ _ _ _ _ _ _ _ _ _ _ _
   | exact ih4 _ _ _ _ _ _ _ _ _ _ _ _ _ _ _
   | exact printing_window.mono _ _ _ _
   | exact LeO.none _
   | refine LeO.ite ?_ ?_
   | refine LeO.bind ?_ (fun _ => ?_)
  ·intro y0 y1 y2 y3 y4 y5 y6 y7 y8 y9 y10
   unfold printing_Blur.l2
   repeat' first
   | (with_reducible exact ih0 _ _ _ _ _ _ _ _)
   | (with_reducible exact ih1 _ _ _ _ _ _ _ _ _ _ _ _)
   | (with_reducible exact ih2 _ _ _ _ _ _ _ _ _ _ _)
   | (with_reducible exact ih3 _ _ _ _ _ _ _ _ _ _ _ _ _ _ _)
   | (with_reducible exact ih4 _ _ _ _ _ _ _ _ _ _ _ _ _ _ _)
   | (with_reducible exact printing_window.mono _ _ _ _)
   | (with_reducible exact LeO.refl _)
   | (with_reducible exact LeO.none _)
   | (with_reducible refine LeO.ite ?_ ?_)
   | (with_reducible refine LeO.bind ?_ (fun _ => ?_))
   | exact ih0 _ _ _ _ _ _ _ _
   | exact ih1 _ _ _ _ _ _ _ _ _ _ _ _
   | exact ih2 _ _ _ _ _ _ _ _ _ _ _
   | exact ih3 _ _ _ _ _ _ _ _ _ _ _ _ _ _ _
   | exact ih4 _ _ _ _ _ _ _ _ _ _ _ _ _ _ _
   | exact printing_window.mono _ _ _ _
   | exact LeO.none _
   | refine LeO.ite ?_ ?_
   | refine LeO.bind ?_ (fun _ => ?_)
  ·intro y0 y1 y2 y3 y4 y5 y6 y7 y8 y9 y10 y11 y12 y13 y14
   unfold printing_Blur.l3
   repeat' first
   | (with_reducible exact ih0 _ _ _ _ _ _ _ _)
   | (with_reducible exact ih1 _ _ _ _ _ _ _ _ _ _ _ _)
   | (with_reducible exact ih2 _ _ _ _ _ _ _ _ _ _ _)
   | (with_reducible exact ih3 _ _ _ _ _ _ _ _ _ _ _ _ _ _ _)
   | (with_reducible exact ih4 _ _ _ _ _ _ _ _ _ _ _ _ _ _ _)
   | (with_reducible exact printing_window.mono _ _ _ _)
   | (with_reducible exact LeO.refl _)
   | (with_reducible exact LeO.none _)
   | (with_reducible refine LeO.ite ?_ ?_)
   | (with_reducible refine LeO.bind ?_ (fun _ => ?_))
   | exact ih0 _ _ _ _ _ _ _ _
   | exact ih1 _ _ _ _ _ _ _ _ _ _ _ _
   | exact ih2 _ _ _ _ _ _ _ _ _ _ _
   | exact ih3 _ _ _ _ _ _ _ _ _ _ _ _ _ _ _
   | exact ih4 _ _ _ _ _ _ _ _ _ _ _ _ _ _ _
   | exact printing_window.mono _ _ _ _
   | exact LeO.none _
   | refine LeO.ite ?_ ?_
   | refine LeO.bind ?_ (fun _ => ?_)
  ·intro y0 y1 y2 y3 y4 y5 y6 y7 y8 y9 y10 y11 y12 y13 y14
   unfold printing_Blur.l4
   repeat' first
   | (with_reducible exact ih0 _ _ _ _ _ _ _ _)
   | (with_reducible exact ih1 _ _ _ _ _ _ _ _ _ _ _ _)
   | (with_reducible exact ih2 _ _ _ _ _ _ _ _ _ _ _)
   | (with_reducible exact ih3 _ _ _ _ _ _ _ _ _ _ _ _ _ _ _)
   | (with_reducible exact ih4 _ _ _ _ _ _ _ _ _ _ _ _ _ _ _)
   | (with_reducible exact printing_window.mono _ _ _ _)
   | (with_reducible exact LeO.refl _)
   | (with_reducible exact LeO.none _)
   | (with_reducible refine LeO.ite ?_ ?_)
   | (with_reducible refine LeO.bind ?_ (fun _ => ?_))
   | exact ih0 _ _ _ _ _ _ _ _
   | exact ih1 _ _ _ _ _ _ _ _ _ _ _ _
   | exact ih2 _ _ _ _ _ _ _ _ _ _ _
   | exact ih3 _ _ _ _ _ _ _ _ _ _ _ _ _ _ _
   | exact ih4 _ _ _ _ _ _ _ _ _ _ _ _ _ _ _
   | exact printing_window.mono _ _ _ _
   | exact LeO.none _
   | refine LeO.ite ?_ ?_
   | refine LeO.bind ?_ (fun _ => ?_)
theorem printing_Blur.mono : ∀ a0 a1 a2 a3 k, LeO (printing_Blur.f k a0 a1 a2 a3) (printing_Blur.f (k + 1) a0 a1 a2 a3) := by
 intro a0 a1 a2 a3 k
 obtain ⟨ih0, ih1, ih2, ih3, ih4⟩ := printing_Blur.mono_l k
 unfold printing_Blur.f
 repeat' first
   | (with_reducible exact ih0 _ _ _ _ _ _ _ _)
   | (with_reducible exact ih1 _ _ _ _ _ _ _ _ _ _ _ _)
   | (with_reducible exact ih2 _ _ _ _ _ _ _ _ _ _ _)
   | (with_reducible exact ih3 _ _ _ _ _ _ _ _ _ _ _ _ _ _ _)
   | (with_reducible exact ih4 _ _ _ _ _ _ _ _ _ _ _ _ _ _ _)
   | (with_reducible exact printing_window.mono _ _ _ _)
   | (with_reducible exact LeO.refl _)
   | (with_reducible exact LeO.none _)
   | (with_reducible refine LeO.ite ?_ ?_)
   | (with_reducible refine LeO.bind ?_ (fun _ => ?_))
   | exact ih0 _ _ _ _ _ _ _ _
   | exact ih1 _ _ _ _ _ _ _ _ _ _ _ _
   | exact ih2 _ _ _ _ _ _ _ _ _ _ _
   | exact ih3 _ _ _ _ _ _ _ _ _ _ _ _ _ _ _
   | exact ih4 _ _ _ _ _ _ _ _ _ _ _ _ _ _ _
   | exact printing_window.mono _ _ _ _
   | exact LeO.none _
   | refine LeO.ite ?_ ?_
   | refine LeO.bind ?_ (fun _ => ?_)
def printing_Blur.T16 : Bool × List (List Nat × List Nat) := (true, [([], []), ([], []), ([], []), ([2], [2]), ([1, 3], [1, 3]), ([0, 4], [0, 4]), ([], []), ([], []), ([6, 7], [6, 7]), ([5, 8, 8], [5, 8])])
def printing_Blur.B16 : List Nat := [0, 0, 0, 4, 14, 31, 0, 0, 192, 511]
theorem printing_Blur.tab16 : rtab .any (opsOf Try.f11 16) = printing_Blur.T16 := by kernel_rfl
theorem printing_Blur.bits16 : waitsOk printing_Blur.T16.2 printing_Blur.B16 = true := by kernel_rfl
def printing_Blur.T18 : Bool × List (List Nat × List Nat) := (true, [([], []), ([0], [0]), ([], []), ([2], [2]), ([], []), ([4], [4]), ([5], [5]), ([6, 6], [6]), ([1, 3, 7], [1, 3, 7]), ([], []), ([9, 8, 0, 1, 2, 3, 4, 5, 6, 7, 8, 9], [8, 9])])
def printing_Blur.B18 : List Nat := [0, 1, 0, 4, 0, 16, 48, 112, 255, 0, 1023]
theorem printing_Blur.tab18 : rtab .any (opsOf Try.f11 18) = printing_Blur.T18 := by kernel_rfl
theorem printing_Blur.bits18 : waitsOk printing_Blur.T18.2 printing_Blur.B18 = true := by kernel_rfl
def printing_Blur.T31 : Bool × List (List Nat × List Nat) := (true, [([], []), ([0], [0]), ([], []), ([], []), ([3], [3]), ([2, 4], [2, 4]), ([], []), ([5, 6], [5, 6]), ([], []), ([8], [8]), ([], []), ([], []), ([10, 11], [10, 11]), ([9, 12], [9, 12]), ([], []), ([14], [14]), ([], []), ([15, 16], [15, 16]), ([13, 17], [13, 17]), ([18], [18]), ([1, 7, 0, 1, 2, 3, 4, 5, 6, 7, 8, 9, 10, 11, 12, 13, 14, 15, 16, 17, 18, 19], [1, 7]), ([20, 19, 0, 1, 2, 3, 4, 5, 6, 7, 8, 9, 10, 11, 12, 13, 14, 15, 16, 17, 18, 19], [19, 20])])
def printing_Blur.B31 : List Nat := [0, 1, 0, 0, 8, 28, 0, 124, 0, 256, 0, 0, 3072, 7936, 0, 16384, 0, 114688, 261888, 524032, 1048575, 2097151]
theorem printing_Blur.tab31 : rtab .any (opsOf Try.f11 31) = printing_Blur.T31 := by kernel_rfl
theorem printing_Blur.bits31 : waitsOk printing_Blur.T31.2 printing_Blur.B31 = true := by kernel_rfl
set_option maxHeartbeats 8000000 in
set_option maxRecDepth 100000 in
theorem printing_Blur.calls (k : Nat) (a0_0 : Int) (a0_1 : Int) (A0_2 : Option Addr) (c0_2 : Nat) (l0_2 : List Int) (a1 : Int) (r1 : Int) (r2 : Int) (r3 : List Int) (r4 : Int) (w : World) (hr0_2 : Kd.C (Kd.int .u8) w A0_2 l0_2.length l0_2) (hc0_2 : l0_2.length ≤ c0_2) (h : printing_Blur.f k a0_0 a0_1 l0_2 a1 = some (r1, r2, r3, r4)) :
  Calls Try.prog 11 #[.agg #[.int .i64 a0_0, .int .i64 a0_1, .slice A0_2 l0_2.length c0_2], .int .i64 a1] w fun e w' => ∃ v2_ : Value, e = .returned (.tuple #[.agg #[.int .i64 r1, .int .i64 r2, v2_], .int .i64 r4]) ∧ Kd.R (Kd.int .u8) 5 w' w.heap.size (fun _ => True) v2_ r3 ∧ Below w.heap.size w w' := by
 have hu24 := Try.underlying24
 have HR0_2 := Aside0.mk hr0_2
 have HC0_2 := Aside0.mk hc0_2
 clear hr0_2 hc0_2
 have HB := Aside0.mk (Below.refl w.heap.size w)
 have H : ((raster_CheckImage.f a0_0 a0_1 l0_2).bind fun t129 => (if t129 = 0 then (if a1 < 0 then (some (0, 0, ([] : List Int), 3)) else (if a1 > 64 then (some (0, 0, ([] : List Int), 3)) else (if 0 ≤ (l0_2.length : Int) then (if ((l0_2.length : Int) : Int).toNat ≤ 35184372088832 then (printing_Blur.l0 k a1 (wrap64 ((wrap64 (2 * a1)) + 1)) (List.replicate ((l0_2.length : Int) : Int).toNat 0) a0_1 0 a0_0 a0_1 l0_2) else (none)) else (none)))) else (some (0, 0, ([] : List Int), 1)))) = some (r1, r2, r3, r4) := h
 clear h
 replace H := Option.bind_eq_some_iff.mp H
 obtain ⟨t129, A30, H⟩ := H
 replace H : (if t129 = 0 then (if a1 < 0 then (some (0, 0, ([] : List Int), 3)) else (if a1 > 64 then (some (0, 0, ([] : List Int), 3)) else (if 0 ≤ (l0_2.length : Int) then (if ((l0_2.length : Int) : Int).toNat ≤ 35184372088832 then (printing_Blur.l0 k a1 (wrap64 ((wrap64 (2 * a1)) + 1)) (List.replicate ((l0_2.length : Int) : Int).toNat 0) a0_1 0 a0_0 a0_1 l0_2) else (none)) else (none)))) else (some (0, 0, ([] : List Int), 1))) = some (r1, r2, r3, r4) := H
 have A3 := Aside0.mk A30
 clear A30
 by_cases c4 : t129 = 0
 ·rw [if_pos c4] at H
  have c4b0 : (t129 == 0) = true := beq_iff_eq.mpr c4
  have c4b1 : (t129 != 0) = false := bne_eq_false_iff_eq.mpr c4
  clear c4
  by_cases c5 : a1 < 0
  ·rw [if_pos c5] at H
   have c5b0 : decide (a1 < 0) = true := decide_eq_true c5
   clear c5
   simp only [Option.some.injEq, Prod.mk.injEq] at H
   obtain ⟨rfl, rfl, rfl, rfl⟩ := H
   go_enter Try.func11, Try.ntmps11
   go_wp2_with (first | ((with_reducible refine gate_dst (N := 2) rfl ?_); refine box_event ?hg (N := 2) ?hd (cs := #[.int .i64 a0_0, .int .i64 a0_1, .slice A0_2 l0_2.length c0_2]) (t := 24) ?hr ?_; (case hd => rfl); (case hg => rfl); (case hr => first | (go_simp; done) | (go_simp; rfl)); intro gb127 hg w6 hbox hb; have n0_ := Aside0.mk (below_step (hb0 HB) hb); have n1_ := Aside0.mk (hbox); have n2_ := Aside0.mk ((by rw [hg]; exact (below_size (hb0 HB)) : w.heap.size ≤ gb127)); have n3_ := Aside0.mk ((by rw [hg]; exact (below_size (hb0 HB)) : w.heap.size ≤ gb127)); clear HB; have HB := n0_; have BK127 := n1_; have GW127 := n2_; have GE127 := n3_; clear n0_ n1_ n2_ n3_; clear hb hbox hg) | ((with_reducible refine gate_dst (N := 4) rfl ?_); refine box_event ?hg (N := 4) ?hd (cs := #[.int .i64 0, .int .i64 0, .slice none 0 0]) (t := 24) ?hr ?_; (case hd => rfl); (case hg => rfl); (case hr => first | (go_simp; done) | (go_simp; rfl)); intro gb128 hg w7 hbox hb; have n0_ := Aside0.mk (blk_below (bkx BK127) hb); have n1_ := Aside0.mk (below_step (hb1 HB GE127) hb); have n2_ := Aside0.mk (hbox); have n3_ := Aside0.mk ((by rw [hg]; exact (below_size (hb1 HB GE127)) : w.heap.size ≤ gb128)); have n4_ := Aside0.mk ((by rw [hg]; exact (below_size (hb1 HB GE127)) : w.heap.size ≤ gb128)); have n5_ := Aside0.mk (nel hg BK127 : gb127 ≠ gb128); have n6_ := Aside0.mk (neg hg BK127 : gb128 ≠ gb127); clear BK127; clear HB; have BK127 := n0_; have HB := n1_; have BK128 := n2_; have GW128 := n3_; have GE128 := n4_; have NB127_128 := n5_; have NB128_127 := n6_; clear n0_ n1_ n2_ n3_ n4_ n5_ n6_; clear hb hbox hg; have hnb8 := NB127_128.out; have hnc8 := NB128_127.out; have hcz9_0 : w7.cell? ⟨gb127, 0, none⟩ = some (.int .i64 a0_0) := (blk_cell BK127.out 0).trans rfl; have hcz9_1 : w7.cell? ⟨gb127, 1, none⟩ = some (.int .i64 a0_1) := (blk_cell BK127.out 1).trans rfl; have hcz9_2 : w7.cell? ⟨gb127, 2, none⟩ = some (.slice A0_2 l0_2.length c0_2) := (blk_cell BK127.out 2).trans rfl; have hfz9_0 := blk_frozen BK127.out 0; have hfz9_1 := blk_frozen BK127.out 1; have hfz9_2 := blk_frozen BK127.out 2) | ((with_reducible refine gate_callee (f := 30) rfl ?_); refine goesL_ (some 19) rfl rfl Try.func30 (by kernel_rfl) rfl #[.agg #[.int .i64 a0_0, .int .i64 a0_1, .slice A0_2 l0_2.length c0_2]] rfl mapx ?_; (with_reducible refine (raster_CheckImage.calls a0_0 a0_1 _ _ l0_2 t129 _ ?side1 ?side2 A3.out).mono ?_); (case side1 => repeat (first | exact (Kd.C_below HR0_2.out HB.out) | (with_reducible refine Kd.C_alloc ?_ _) | (with_reducible refine Kd.C_drewN ?_ _) | (with_reducible refine Kd.C_drew ?_))); (case side2 => exact HC0_2.out); rintro e w10 ⟨rfl, hb⟩; refine ⟨_, rfl, ?_⟩; have n0_ := Aside0.mk (blk_below (bkx BK127) hb); have n1_ := Aside0.mk (blk_below (bkx BK128) hb); have n2_ := Aside0.mk (below_step (hb2 HB GE127 GE128) hb); clear BK127; clear BK128; clear HB; have BK127 := n0_; have BK128 := n1_; have HB := n2_; clear n0_ n1_ n2_; (try clear hb); (try clear hb2); (try clear hk); (try clear hi); have hcz11_0 : w10.cell? ⟨gb128, 0, none⟩ = some (.int .i64 0) := (blk_cell BK128.out 0).trans rfl; have hcz11_1 : w10.cell? ⟨gb128, 1, none⟩ = some (.int .i64 0) := (blk_cell BK128.out 1).trans rfl; have hcz11_2 : w10.cell? ⟨gb128, 2, none⟩ = some (.slice none 0 0) := (blk_cell BK128.out 2).trans rfl; have hfz11_0 := blk_frozen BK128.out 0; have hfz11_1 := blk_frozen BK128.out 1; have hfz11_2 := blk_frozen BK128.out 2))
   refine bodyPost_ret (results_ct rfl _ _ gb128 24 #[.int .i64 0, .int .i64 0, .slice none 0 0] (0, 0) _ rfl (by refine bkt ?_; refine blk_put (cs := #[.int .i64 0, .int .i64 0, .slice none 0 0]) ?_ 2 _ rfl; refine bkt ?_; refine blk_put (cs := #[.int .i64 0, .int .i64 0, .slice none 0 0]) ?_ 1 _ rfl; refine bkt ?_; refine blk_put (cs := #[.int .i64 0, .int .i64 0, .slice none 0 0]) ?_ 0 _ rfl; refine bkt ?_; exact BK128.out) Try.underlying24 rfl (by kernel_rfl)) rfl ?_
   exact ⟨_, by first | rfl | (simp [errW_none, errW_some] <;> rfl) | (simp [*, errW_none, errW_some] <;> rfl), by first | exact Kd.R_nil _ _ _ _ _ | exact Kd.N_nil _ _ _ _ _ | exact Kd.V_nil _ _ _ _ _ | exact Kd.Q_nil _ _ _ _ _ | exact Kd.S_nil _ _ _ _ _, by repeat (first | (with_reducible first | exact HB.out | apply below_alloc | apply pw_below_drewN | apply below_drew1 | refine below_set ?_ GE127.out | refine below_set ?_ GE128.out) | exact HB.out)⟩
  ·rw [if_neg c5] at H
   have c5b0 : decide (a1 < 0) = false := decide_eq_false c5
   clear c5
   by_cases c12 : a1 > 64
   ·rw [if_pos c12] at H
    have c12b0 : decide (64 < a1) = true := decide_eq_true c12
    clear c12
    simp only [Option.some.injEq, Prod.mk.injEq] at H
    obtain ⟨rfl, rfl, rfl, rfl⟩ := H
    go_enter Try.func11, Try.ntmps11
    go_wp2_with (first | ((with_reducible refine gate_dst (N := 2) rfl ?_); refine box_event ?hg (N := 2) ?hd (cs := #[.int .i64 a0_0, .int .i64 a0_1, .slice A0_2 l0_2.length c0_2]) (t := 24) ?hr ?_; (case hd => rfl); (case hg => rfl); (case hr => first | (go_simp; done) | (go_simp; rfl)); intro gb127 hg w13 hbox hb; have n0_ := Aside0.mk (below_step (hb0 HB) hb); have n1_ := Aside0.mk (hbox); have n2_ := Aside0.mk ((by rw [hg]; exact (below_size (hb0 HB)) : w.heap.size ≤ gb127)); have n3_ := Aside0.mk ((by rw [hg]; exact (below_size (hb0 HB)) : w.heap.size ≤ gb127)); clear HB; have HB := n0_; have BK127 := n1_; have GW127 := n2_; have GE127 := n3_; clear n0_ n1_ n2_ n3_; clear hb hbox hg) | ((with_reducible refine gate_dst (N := 4) rfl ?_); refine box_event ?hg (N := 4) ?hd (cs := #[.int .i64 0, .int .i64 0, .slice none 0 0]) (t := 24) ?hr ?_; (case hd => rfl); (case hg => rfl); (case hr => first | (go_simp; done) | (go_simp; rfl)); intro gb128 hg w14 hbox hb; have n0_ := Aside0.mk (blk_below (bkx BK127) hb); have n1_ := Aside0.mk (below_step (hb1 HB GE127) hb); have n2_ := Aside0.mk (hbox); have n3_ := Aside0.mk ((by rw [hg]; exact (below_size (hb1 HB GE127)) : w.heap.size ≤ gb128)); have n4_ := Aside0.mk ((by rw [hg]; exact (below_size (hb1 HB GE127)) : w.heap.size ≤ gb128)); have n5_ := Aside0.mk (nel hg BK127 : gb127 ≠ gb128); have n6_ := Aside0.mk (neg hg BK127 : gb128 ≠ gb127); clear BK127; clear HB; have BK127 := n0_; have HB := n1_; have BK128 := n2_; have GW128 := n3_; have GE128 := n4_; have NB127_128 := n5_; have NB128_127 := n6_; clear n0_ n1_ n2_ n3_ n4_ n5_ n6_; clear hb hbox hg; have hnb15 := NB127_128.out; have hnc15 := NB128_127.out; have hcz16_0 : w14.cell? ⟨gb127, 0, none⟩ = some (.int .i64 a0_0) := (blk_cell BK127.out 0).trans rfl; have hcz16_1 : w14.cell? ⟨gb127, 1, none⟩ = some (.int .i64 a0_1) := (blk_cell BK127.out 1).trans rfl; have hcz16_2 : w14.cell? ⟨gb127, 2, none⟩ = some (.slice A0_2 l0_2.length c0_2) := (blk_cell BK127.out 2).trans rfl; have hfz16_0 := blk_frozen BK127.out 0; have hfz16_1 := blk_frozen BK127.out 1; have hfz16_2 := blk_frozen BK127.out 2) | ((with_reducible refine gate_callee (f := 30) rfl ?_); refine goesL_ (some 19) rfl rfl Try.func30 (by kernel_rfl) rfl #[.agg #[.int .i64 a0_0, .int .i64 a0_1, .slice A0_2 l0_2.length c0_2]] rfl mapx ?_; (with_reducible refine (raster_CheckImage.calls a0_0 a0_1 _ _ l0_2 t129 _ ?side1 ?side2 A3.out).mono ?_); (case side1 => repeat (first | exact (Kd.C_below HR0_2.out HB.out) | (with_reducible refine Kd.C_alloc ?_ _) | (with_reducible refine Kd.C_drewN ?_ _) | (with_reducible refine Kd.C_drew ?_))); (case side2 => exact HC0_2.out); rintro e w17 ⟨rfl, hb⟩; refine ⟨_, rfl, ?_⟩; have n0_ := Aside0.mk (blk_below (bkx BK127) hb); have n1_ := Aside0.mk (blk_below (bkx BK128) hb); have n2_ := Aside0.mk (below_step (hb2 HB GE127 GE128) hb); clear BK127; clear BK128; clear HB; have BK127 := n0_; have BK128 := n1_; have HB := n2_; clear n0_ n1_ n2_; (try clear hb); (try clear hb2); (try clear hk); (try clear hi); have hcz18_0 : w17.cell? ⟨gb128, 0, none⟩ = some (.int .i64 0) := (blk_cell BK128.out 0).trans rfl; have hcz18_1 : w17.cell? ⟨gb128, 1, none⟩ = some (.int .i64 0) := (blk_cell BK128.out 1).trans rfl; have hcz18_2 : w17.cell? ⟨gb128, 2, none⟩ = some (.slice none 0 0) := (blk_cell BK128.out 2).trans rfl; have hfz18_0 := blk_frozen BK128.out 0; have hfz18_1 := blk_frozen BK128.out 1; have hfz18_2 := blk_frozen BK128.out 2))
    refine bodyPost_ret (results_ct rfl _ _ gb128 24 #[.int .i64 0, .int .i64 0, .slice none 0 0] (0, 0) _ rfl (by refine bkt ?_; refine blk_put (cs := #[.int .i64 0, .int .i64 0, .slice none 0 0]) ?_ 2 _ rfl; refine bkt ?_; refine blk_put (cs := #[.int .i64 0, .int .i64 0, .slice none 0 0]) ?_ 1 _ rfl; refine bkt ?_; refine blk_put (cs := #[.int .i64 0, .int .i64 0, .slice none 0 0]) ?_ 0 _ rfl; refine bkt ?_; exact BK128.out) Try.underlying24 rfl (by kernel_rfl)) rfl ?_
    exact ⟨_, by first | rfl | (simp [errW_none, errW_some] <;> rfl) | (simp [*, errW_none, errW_some] <;> rfl), by first | exact Kd.R_nil _ _ _ _ _ | exact Kd.N_nil _ _ _ _ _ | exact Kd.V_nil _ _ _ _ _ | exact Kd.Q_nil _ _ _ _ _ | exact Kd.S_nil _ _ _ _ _, by repeat (first | (with_reducible first | exact HB.out | apply below_alloc | apply pw_below_drewN | apply below_drew1 | refine below_set ?_ GE127.out | refine below_set ?_ GE128.out) | exact HB.out)⟩
   ·rw [if_neg c12] at H
    have c12b0 : decide (64 < a1) = false := decide_eq_false c12
    clear c12
    by_cases c19 : 0 ≤ (l0_2.length : Int)
    ·rw [if_pos c19] at H
     have c19b0 := eq_true c19
     have c19b1 : decide (0 ≤ (l0_2.length : Int)) = true := decide_eq_true c19
     clear c19
     by_cases c20 : ((l0_2.length : Int) : Int).toNat ≤ 35184372088832
     ·rw [if_pos c20] at H
      have c20b0 := eq_true c20
      have c20b1 : decide (((l0_2.length : Int) : Int).toNat ≤ 35184372088832) = true := decide_eq_true c20
      clear c20
      obtain ⟨y130, hy130⟩ : ∃ y_ : List Int, y_ = (List.replicate ((l0_2.length : Int) : Int).toNat 0) := ⟨_, rfl⟩
      replace H : (printing_Blur.l0 k a1 (wrap64 ((wrap64 (2 * a1)) + 1)) y130 a0_1 0 a0_0 a0_1 l0_2) = some (r1, r2, r3, r4) := by first | (rw [hy130]; with_reducible exact H) | (have H2_ := (Option.bind_some _ _).symm.trans H; rw [hy130]; with_reducible exact H2_) | (have H2_ := (Option.bind_some _ _).symm.trans H; with_reducible exact H2_) | with_reducible exact H | (rw [hy130]; exact H) | exact H
      have Ny130 := Aside0.mk hy130
      clear hy130
      have H' := Aside0.mk H
      clear H
      go_enter Try.func11, Try.ntmps11
      go_wp2_with (first | ((with_reducible refine gate_dst (N := 2) rfl ?_); refine box_event ?hg (N := 2) ?hd (cs := #[.int .i64 a0_0, .int .i64 a0_1, .slice A0_2 l0_2.length c0_2]) (t := 24) ?hr ?_; (case hd => rfl); (case hg => rfl); (case hr => first | (go_simp; done) | (go_simp; rfl)); intro gb127 hg w21 hbox hb; have n0_ := Aside0.mk (below_step (hb0 HB) hb); have n1_ := Aside0.mk (hbox); have n2_ := Aside0.mk ((by rw [hg]; exact (below_size (hb0 HB)) : w.heap.size ≤ gb127)); have n3_ := Aside0.mk ((by rw [hg]; exact (below_size (hb0 HB)) : w.heap.size ≤ gb127)); clear HB; have HB := n0_; have BK127 := n1_; have GW127 := n2_; have GE127 := n3_; clear n0_ n1_ n2_ n3_; clear hb hbox hg) | ((with_reducible refine gate_dst (N := 4) rfl ?_); refine box_event ?hg (N := 4) ?hd (cs := #[.int .i64 0, .int .i64 0, .slice none 0 0]) (t := 24) ?hr ?_; (case hd => rfl); (case hg => rfl); (case hr => first | (go_simp; done) | (go_simp; rfl)); intro gb128 hg w22 hbox hb; have n0_ := Aside0.mk (blk_below (bkx BK127) hb); have n1_ := Aside0.mk (below_step (hb1 HB GE127) hb); have n2_ := Aside0.mk (hbox); have n3_ := Aside0.mk ((by rw [hg]; exact (below_size (hb1 HB GE127)) : w.heap.size ≤ gb128)); have n4_ := Aside0.mk ((by rw [hg]; exact (below_size (hb1 HB GE127)) : w.heap.size ≤ gb128)); have n5_ := Aside0.mk (nel hg BK127 : gb127 ≠ gb128); have n6_ := Aside0.mk (neg hg BK127 : gb128 ≠ gb127); clear BK127; clear HB; have BK127 := n0_; have HB := n1_; have BK128 := n2_; have GW128 := n3_; have GE128 := n4_; have NB127_128 := n5_; have NB128_127 := n6_; clear n0_ n1_ n2_ n3_ n4_ n5_ n6_; clear hb hbox hg; have hnb23 := NB127_128.out; have hnc23 := NB128_127.out; have hcz24_0 : w22.cell? ⟨gb127, 0, none⟩ = some (.int .i64 a0_0) := (blk_cell BK127.out 0).trans rfl; have hcz24_1 : w22.cell? ⟨gb127, 1, none⟩ = some (.int .i64 a0_1) := (blk_cell BK127.out 1).trans rfl; have hcz24_2 : w22.cell? ⟨gb127, 2, none⟩ = some (.slice A0_2 l0_2.length c0_2) := (blk_cell BK127.out 2).trans rfl; have hfz24_0 := blk_frozen BK127.out 0; have hfz24_1 := blk_frozen BK127.out 1; have hfz24_2 := blk_frozen BK127.out 2) | ((with_reducible refine gate_callee (f := 30) rfl ?_); refine goesL_ (some 19) rfl rfl Try.func30 (by kernel_rfl) rfl #[.agg #[.int .i64 a0_0, .int .i64 a0_1, .slice A0_2 l0_2.length c0_2]] rfl mapx ?_; (with_reducible refine (raster_CheckImage.calls a0_0 a0_1 _ _ l0_2 t129 _ ?side1 ?side2 A3.out).mono ?_); (case side1 => repeat (first | exact (Kd.C_below HR0_2.out HB.out) | (with_reducible refine Kd.C_alloc ?_ _) | (with_reducible refine Kd.C_drewN ?_ _) | (with_reducible refine Kd.C_drew ?_))); (case side2 => exact HC0_2.out); rintro e w25 ⟨rfl, hb⟩; refine ⟨_, rfl, ?_⟩; have n0_ := Aside0.mk (blk_below (bkx BK127) hb); have n1_ := Aside0.mk (blk_below (bkx BK128) hb); have n2_ := Aside0.mk (below_step (hb2 HB GE127 GE128) hb); clear BK127; clear BK128; clear HB; have BK127 := n0_; have BK128 := n1_; have HB := n2_; clear n0_ n1_ n2_; (try clear hb); (try clear hb2); (try clear hk); (try clear hi); have hcz26_0 : w25.cell? ⟨gb127, 0, none⟩ = some (.int .i64 a0_0) := (blk_cell BK127.out 0).trans rfl; have hcz26_1 : w25.cell? ⟨gb127, 1, none⟩ = some (.int .i64 a0_1) := (blk_cell BK127.out 1).trans rfl; have hcz26_2 : w25.cell? ⟨gb127, 2, none⟩ = some (.slice A0_2 l0_2.length c0_2) := (blk_cell BK127.out 2).trans rfl; have hfz26_0 := blk_frozen BK127.out 0; have hfz26_1 := blk_frozen BK127.out 1; have hfz26_2 := blk_frozen BK127.out 2) | ((with_reducible refine gate_dst (N := 36) rfl ?_); refine Kd.R_make (Kd.int .i64) _ 3 rfl (N := 36) rfl 51 _ _ rfl (l0_2.length : Int) rfl rfl Try.underlying51 (.int .i64 0) 8 info3 rfl (by decide) (by omega) 0 (ok := fun _ => True) (okp := fun _ => True) rfl (fun _ hk => hk) trivial (of_decide_eq_true (by first | (with_reducible assumption) | assumption)) (Nat.le_trans (Nat.mul_le_mul_right _ (of_decide_eq_true (by first | (with_reducible assumption) | assumption) : (l0_2.length : Int).toNat ≤ 35184372088832)) (by omega)) (Below.refl _ _) (Nat.le_refl _) ?_; intro v131 w27 ho28 hb hg_ hnew_; clear hg_ hnew_; (first | rw [← Ny130.out] at ho28 | (simp only [Int.reduceToNat] at ho28; rw [← Ny130.out] at ho28)); have n0_ := Aside0.mk (Kd.R_lower ho28 (below_size (hb2 HB GE127 GE128))); have n1_ := Aside0.mk (blk_below (bkx BK127) hb); have n2_ := Aside0.mk (blk_below (bkx BK128) hb); have n3_ := Aside0.mk (below_step (hb2 HB GE127 GE128) hb); clear BK127; clear BK128; clear HB; have HO132 := n0_; have BK127 := n1_; have BK128 := n2_; have HB := n3_; clear n0_ n1_ n2_ n3_; clear hb ho28; have hcz29_0 : w27.cell? ⟨gb127, 0, none⟩ = some (.int .i64 a0_0) := (blk_cell BK127.out 0).trans rfl; have hcz29_1 : w27.cell? ⟨gb127, 1, none⟩ = some (.int .i64 a0_1) := (blk_cell BK127.out 1).trans rfl; have hcz29_2 : w27.cell? ⟨gb127, 2, none⟩ = some (.slice A0_2 l0_2.length c0_2) := (blk_cell BK127.out 2).trans rfl; have hfz29_0 := blk_frozen BK127.out 0; have hfz29_1 := blk_frozen BK127.out 1; have hfz29_2 := blk_frozen BK127.out 2))
      go_loopg [39] k (fun kq v39 w' => ∃ (x7_1 : List Int) (x39_1 : Int), v39 = .int .i64 x39_1 ∧ Aside0 (printing_Blur.l0 kq a1 (wrap64 ((wrap64 (2 * a1)) + 1)) x7_1 a0_1 x39_1 a0_0 a0_1 l0_2 = some (r1, r2, r3, r4)) ∧ Aside0 (kq ≤ k) ∧ Aside0 (Kd.R (Kd.int .i64) 3 w' w.heap.size (fun _ => True) v131 x7_1) ∧ Aside0 (w'.heap[gb127]? = some (.cells #[.int .i64 a0_0, .int .i64 a0_1, (.slice A0_2 l0_2.length c0_2)] 24 (0, 0))) ∧ Aside0 (w'.heap[gb128]? = some (.cells #[.int .i64 0, .int .i64 0, (.slice none 0 0)] 24 (0, 0))) ∧ Aside0 (Below w.heap.size w w'))
      case atStart => exact ⟨(y130), (0), (by first | rfl | (simp; done) | (simp [*]; done)), H', ⟨Nat.le_refl _⟩, ⟨rkx HO132⟩, ⟨bkx BK127⟩, ⟨bkx BK128⟩, ⟨hb2 HB GE127 GE128⟩⟩
      case round =>
       clear H'
       (try clear c1); (try clear c2); (try clear p2); (try clear c3); (try clear c4); (try clear c4b0); (try clear c4b1); (try clear c5); (try clear c5b0); (try clear p6); (try clear c8); (try clear c11); (try clear c12); (try clear c12b0); (try clear c15); (try clear c19); (try clear c19b0); (try clear c19b1); (try clear c20); (try clear c20b0); (try clear c20b1); (try clear c23); (try clear hcz11_0); (try clear hcz11_1); (try clear hcz11_2); (try clear hcz16_0); (try clear hcz16_1); (try clear hcz16_2); (try clear hcz18_0); (try clear hcz18_1); (try clear hcz18_2); (try clear hcz24_0); (try clear hcz24_1); (try clear hcz24_2); (try clear hcz26_0); (try clear hcz26_1); (try clear hcz26_2); (try clear hcz29_0); (try clear hcz29_1); (try clear hcz29_2); (try clear hcz9_0); (try clear hcz9_1); (try clear hcz9_2); (try clear hfz11_0); (try clear hfz11_1); (try clear hfz11_2); (try clear hfz16_0); (try clear hfz16_1); (try clear hfz16_2); (try clear hfz18_0); (try clear hfz18_1); (try clear hfz18_2); (try clear hfz24_0); (try clear hfz24_1); (try clear hfz24_2); (try clear hfz26_0); (try clear hfz26_1); (try clear hfz26_2); (try clear hfz29_0); (try clear hfz29_1); (try clear hfz29_2); (try clear hfz9_0); (try clear hfz9_1); (try clear hfz9_2)
       obtain ⟨x7_1, x39_1, rfl, HA, HK1, HO_7, BK127, BK128, HB⟩ := hrel
       cases gk with
       | zero => exact absurd HA.out (by simp [printing_Blur.l0])
       | succ k1 =>
        have H := HA.out
        clear HA
        simp only [printing_Blur.l0] at H
        by_cases c30 : x39_1 < a0_1
        ·rw [if_pos c30] at H
         have c30b0 : decide (x39_1 < a0_1) = true := decide_eq_true c30
         clear c30
         by_cases c31 : 0 ≤ a0_0
         ·rw [if_pos c31] at H
          have c31b0 := eq_true c31
          have c31b1 : decide (0 ≤ a0_0) = true := decide_eq_true c31
          clear c31
          by_cases c32 : (a0_0 : Int).toNat ≤ 35184372088832
          ·rw [if_pos c32] at H
           have c32b0 := eq_true c32
           have c32b1 : decide ((a0_0 : Int).toNat ≤ 35184372088832) = true := decide_eq_true c32
           clear c32
           obtain ⟨y133, hy133⟩ : ∃ y_ : List Int, y_ = (List.replicate (a0_0 : Int).toNat 0) := ⟨_, rfl⟩
           replace H : (printing_Blur.l1 k1 a1 (wrap64 ((wrap64 (2 * a1)) + 1)) x7_1 x39_1 y133 a0_1 x39_1 (y133.length : Int) 0 a0_0 a0_1 l0_2) = some (r1, r2, r3, r4) := by first | (rw [hy133]; with_reducible exact H) | (have H2_ := (Option.bind_some _ _).symm.trans H; rw [hy133]; with_reducible exact H2_) | (have H2_ := (Option.bind_some _ _).symm.trans H; with_reducible exact H2_) | with_reducible exact H | (rw [hy133]; exact H) | exact H
           have Ny133 := Aside0.mk hy133
           clear hy133
           have H' := Aside0.mk H
           clear H
           have hnb33 := NB127_128.out
           have hnc33 := NB128_127.out
           have hcz34_0 : wr.cell? ⟨gb127, 0, none⟩ = some (.int .i64 a0_0) := (blk_cell BK127.out 0).trans rfl
           have hcz34_1 : wr.cell? ⟨gb127, 1, none⟩ = some (.int .i64 a0_1) := (blk_cell BK127.out 1).trans rfl
           have hcz34_2 : wr.cell? ⟨gb127, 2, none⟩ = some (.slice A0_2 l0_2.length c0_2) := (blk_cell BK127.out 2).trans rfl
           have hfz34_0 := blk_frozen BK127.out 0
           have hfz34_1 := blk_frozen BK127.out 1
           have hfz34_2 := blk_frozen BK127.out 2
           go_wp2_with (first | ((with_reducible refine gate_dst (N := 44) rfl ?_); refine Kd.R_make (Kd.int .i64) _ 3 rfl (N := 44) rfl 51 _ _ rfl a0_0 rfl rfl Try.underlying51 (.int .i64 0) 8 info3 rfl (by decide) (by omega) 0 (ok := fun _ => True) (okp := fun _ => True) rfl (fun _ hk => hk) trivial (of_decide_eq_true (by first | (with_reducible assumption) | assumption)) (Nat.le_trans (Nat.mul_le_mul_right _ (of_decide_eq_true (by first | (with_reducible assumption) | assumption) : a0_0.toNat ≤ 35184372088832)) (by omega)) (Below.refl _ _) (Nat.le_refl _) ?_; intro v134 w35 ho36 hb hg_ hnew_; clear hg_ hnew_; (first | rw [← Ny133.out] at ho36 | (simp only [Int.reduceToNat] at ho36; rw [← Ny133.out] at ho36)); have n0_ := Aside0.mk (Kd.R_elder' (rkx HO_7) (Kd.R_base ho36) hb); have n1_ := Aside0.mk (Kd.R_lower (Kd.R_new' ho36 (Kd.R_lt (rkx HO_7))) (below_size (hb2 HB GE127 GE128))); have n2_ := Aside0.mk (blk_below (bkx BK127) hb); have n3_ := Aside0.mk (blk_below (bkx BK128) hb); have n4_ := Aside0.mk (below_step (hb2 HB GE127 GE128) hb); clear HO_7; clear BK127; clear BK128; clear HB; have HO_7 := n0_; have HO135 := n1_; have BK127 := n2_; have BK128 := n3_; have HB := n4_; clear n0_ n1_ n2_ n3_ n4_; clear hb ho36; obtain ⟨Ao37, co37, eo37⟩ := Kd.R_slice HO135.out; subst eo37))
           go_loopg [47] k1 (fun kq v47 w' => ∃ (x9_2 : List Int) (x47_2 : Int), v47 = .int .i64 x47_2 ∧ Aside0 (printing_Blur.l1 kq a1 (wrap64 ((wrap64 (2 * a1)) + 1)) x7_1 x39_1 x9_2 a0_1 x39_1 (y133.length : Int) x47_2 a0_0 a0_1 l0_2 = some (r1, r2, r3, r4)) ∧ Aside0 (kq ≤ k1) ∧ Aside0 (Kd.R (Kd.int .i64) 3 w' w.heap.size (fun k_ => some k_ ≠ ((.slice Ao37 y133.length co37) : Value).ownBlock) v131 x7_1) ∧ Aside0 (Kd.R (Kd.int .i64) 3 w' w.heap.size (fun k_ => some k_ ≠ (v131 : Value).ownBlock) (.slice Ao37 y133.length co37) x9_2) ∧ Aside0 (w'.heap[gb127]? = some (.cells #[.int .i64 a0_0, .int .i64 a0_1, (.slice A0_2 l0_2.length c0_2)] 24 (0, 0))) ∧ Aside0 (w'.heap[gb128]? = some (.cells #[.int .i64 0, .int .i64 0, (.slice none 0 0)] 24 (0, 0))) ∧ Aside0 (Below w.heap.size w w'))
           case atStart => exact ⟨(y133), (0), (by first | rfl | (simp; done) | (simp [*]; done)), H', ⟨Nat.le_refl _⟩, ⟨by refine rkt ?_; exact Kd.R_mono HO_7.out (fun _ hk => hk.2)⟩, ⟨by refine rkt ?_; exact Kd.R_mono HO135.out (fun _ hk => hk.2)⟩, ⟨bkx BK127⟩, ⟨bkx BK128⟩, ⟨hb2 HB GE127 GE128⟩⟩
           case round =>
            clear H'
            (try clear c1); (try clear c2); (try clear p2); (try clear c3); (try clear c4); (try clear c4b0); (try clear c4b1); (try clear c5); (try clear c5b0); (try clear p6); (try clear c8); (try clear c11); (try clear c12); (try clear c12b0); (try clear c15); (try clear c19); (try clear c19b0); (try clear c19b1); (try clear c20); (try clear c20b0); (try clear c20b1); (try clear c23); (try clear c30); (try clear c30b0); (try clear c31); (try clear c31b0); (try clear c31b1); (try clear c32); (try clear c32b0); (try clear c32b1); (try clear c33); (try clear hcz11_0); (try clear hcz11_1); (try clear hcz11_2); (try clear hcz16_0); (try clear hcz16_1); (try clear hcz16_2); (try clear hcz18_0); (try clear hcz18_1); (try clear hcz18_2); (try clear hcz24_0); (try clear hcz24_1); (try clear hcz24_2); (try clear hcz26_0); (try clear hcz26_1); (try clear hcz26_2); (try clear hcz29_0); (try clear hcz29_1); (try clear hcz29_2); (try clear hcz34_0); (try clear hcz34_1); (try clear hcz34_2); (try clear hcz9_0); (try clear hcz9_1); (try clear hcz9_2); (try clear hfz11_0); (try clear hfz11_1); (try clear hfz11_2); (try clear hfz16_0); (try clear hfz16_1); (try clear hfz16_2); (try clear hfz18_0); (try clear hfz18_1); (try clear hfz18_2); (try clear hfz24_0); (try clear hfz24_1); (try clear hfz24_2); (try clear hfz26_0); (try clear hfz26_1); (try clear hfz26_2); (try clear hfz29_0); (try clear hfz29_1); (try clear hfz29_2); (try clear hfz34_0); (try clear hfz34_1); (try clear hfz34_2); (try clear hfz9_0); (try clear hfz9_1); (try clear hfz9_2); (try clear p2); (try clear p6)
            obtain ⟨x9_2, x47_2, rfl, HA, HK2, HO_7, HO_9, BK127, BK128, HB⟩ := hrel
            have hl9_2 := (Kd.R_reads' HO_9.out).1
            rw [hl9_2] at HO_9
            (try simp only [hl9_2])
            (try simp only [hl9_2] at BK127)
            (try simp only [hl9_2] at BK128)
            (try simp only [hl9_2] at HO_7)
            cases gk with
            | zero => exact absurd HA.out (by simp [printing_Blur.l1])
            | succ k2 =>
             have H := HA.out
             clear HA
             simp only [printing_Blur.l1] at H
             by_cases c38 : x47_2 < (y133.length : Int)
             ·rw [if_pos c38] at H
              have c38b0 : decide (x47_2 < (y133.length : Int)) = true := decide_eq_true c38
              (try simp only [hl9_2] at c38b0)
              clear c38
              obtain ⟨ji39, hji39⟩ : ∃ j_ : Int, (wrap64 ((wrap64 (x39_1 * a0_0)) + x47_2)) = j_ := ⟨_, rfl⟩
              replace H : (if 0 ≤ (ji39) then (if (ji39) < (l0_2.length : Int) then (if 0 ≤ x47_2 then (if x47_2 < (x9_2.length : Int) then (printing_Blur.l1 k2 a1 (wrap64 ((wrap64 (2 * a1)) + 1)) x7_1 x39_1 (x9_2.set (x47_2 : Int).toNat (wrap64 (rd l0_2 (ji39)))) a0_1 x39_1 (y133.length : Int) (wrap64 (x47_2 + 1)) a0_0 a0_1 l0_2) else (none)) else (none)) else (none)) else (none)) = some (r1, r2, r3, r4) := by first | (rw [hji39] at H; exact H) | (simp only [hji39] at H ⊢; exact H)
              have hji39w : (IntKind.i64.wrap ((wrap64 (x39_1 * a0_0)) + x47_2)) = ji39 := (i64_w _).trans hji39
              by_cases c40 : 0 ≤ (ji39)
              ·rw [if_pos c40] at H
               have c40b0 : decide (0 ≤ (ji39)) = true := decide_eq_true c40
               clear c40
               by_cases c41 : (ji39) < (l0_2.length : Int)
               ·rw [if_pos c41] at H
                have c41b0 : decide ((ji39) < (l0_2.length : Int)) = true := decide_eq_true c41
                clear c41
                by_cases c42 : 0 ≤ x47_2
                ·rw [if_pos c42] at H
                 have c42b0 : decide (0 ≤ x47_2) = true := decide_eq_true c42
                 clear c42
                 by_cases c43 : x47_2 < (x9_2.length : Int)
                 ·rw [if_pos c43] at H
                  have c43b0 : decide (x47_2 < (x9_2.length : Int)) = true := decide_eq_true c43
                  clear c43
                  obtain ⟨y137, hy137⟩ : ∃ y_ : List Int, y_ = (x9_2.set (x47_2 : Int).toNat (wrap64 (rd l0_2 (ji39)))) := ⟨_, rfl⟩
                  replace H : (printing_Blur.l1 k2 a1 (wrap64 ((wrap64 (2 * a1)) + 1)) x7_1 x39_1 y137 a0_1 x39_1 (y133.length : Int) (wrap64 (x47_2 + 1)) a0_0 a0_1 l0_2) = some (r1, r2, r3, r4) := by first | (rw [hy137]; with_reducible exact H) | (have H2_ := (Option.bind_some _ _).symm.trans H; rw [hy137]; with_reducible exact H2_) | (have H2_ := (Option.bind_some _ _).symm.trans H; with_reducible exact H2_) | with_reducible exact H | (rw [hy137]; exact H) | exact H
                  have Ny137 := Aside0.mk hy137
                  clear hy137
                  have H' := Aside0.mk H
                  clear H
                  have hnb45 := NB127_128.out
                  have hnc45 := NB128_127.out
                  have hcz46_0 : wr.cell? ⟨gb127, 0, none⟩ = some (.int .i64 a0_0) := (blk_cell BK127.out 0).trans rfl
                  have hcz46_1 : wr.cell? ⟨gb127, 1, none⟩ = some (.int .i64 a0_1) := (blk_cell BK127.out 1).trans rfl
                  have hcz46_2 : wr.cell? ⟨gb127, 2, none⟩ = some (.slice A0_2 l0_2.length c0_2) := (blk_cell BK127.out 2).trans rfl
                  have hfz46_0 := blk_frozen BK127.out 0
                  have hfz46_1 := blk_frozen BK127.out 1
                  have hfz46_2 := blk_frozen BK127.out 2
                  have p136 : 0 ≤ ((ji39) : Int) := of_decide_eq_true (by first | (with_reducible assumption) | assumption)
                  have q136 : (ji39) < (l0_2.length : Int) := of_decide_eq_true (by first | (with_reducible assumption) | assumption)
                  obtain ⟨ad136, e136, hx136_0⟩ := Kd.at_int HR0_2.out (ji39) p136 q136
                  cases e136
                  replace hx136_0 := (HB.out.cell (World.block_lt_of_cell? w _ hx136_0)).trans hx136_0
                  replace p136 := eq_true p136
                  replace q136 := eq_true q136
                  have p44 : 0 ≤ (x47_2 : Int) := of_decide_eq_true (by first | (with_reducible assumption) | assumption)
                  have q44 : (x47_2 : Int) < ((x9_2.length : Int) : Int) := of_decide_eq_true (by first | (with_reducible assumption) | assumption)
                  obtain ⟨go44, co44, eo44, gb44, gl44, cl44, HG44⟩ := Kd.R_form HO_9.out (by omega)
                  (first | cases eo44 | (injection eo44 with ea_ en_ ec_; (first | subst ea_ | (injection ea_ with ea_; subst ea_)); subst ec_; clear en_))
                  have GB44 := Aside0.mk gb44
                  have GG44 := Aside0.mk HG44
                  clear gb44 gl44 HG44
                  obtain ⟨hx44_0, hf44_0⟩ := Kd.R_celln 0 HO_9.out (x47_2 : Int) p44 q44
                  replace p44 := eq_true p44
                  replace q44 := eq_true q44
                  have HP47 := Kd.R_putg HO_9.out (x47_2 : Int) (wrap64 (rd l0_2 (ji39)))
                  go_wp2_with (first | ((with_reducible refine gate_store (t := 3) (p := 63) rfl ?_); refine store_event (t := 3) (p := 63) (v := ?vo_w48) (w1 := (wr.setCell ⟨go44, (x47_2 : Int).toNat, none⟩ (.int .i64 (wrap64 (rd l0_2 (ji39)))))) ?hg ?ho ?hn ?hr ?_; (case ho => rfl); (case hg => rfl); (case hn => rfl); (case hr => first | (go_simp; done) | (go_simp; rfl)); intro w48 hw; have hg : wr.grownBy w48 (some go44) := (by rw [hw]; exact HP47.2); have hp_ : Kd.R (Kd.int .i64) 3 w48 w.heap.size (fun k_ => some k_ ≠ (v131 : Value).ownBlock) (.slice (some ⟨go44, 0, none⟩) x9_2.length co37) y137 := (by rw [hw, Ny137.out]; exact HP47.1); clear HP47; have n0_ := Aside0.mk (Kd.R_after (v := (.slice (some ⟨go44, 0, none⟩) x9_2.length co37)) (v1 := (.slice (some ⟨go44, 0, none⟩) x9_2.length co37)) (ok := (fun _ => True)) (by refine rkt ?_; exact Kd.R_mono HO_7.out (fun _ hk => ⟨trivial, hk⟩)) hg (.inl rfl)); have n1_ := Aside0.mk (hp_); have n2_ := Aside0.mk (blk_grown (g := gb127) (o := .cells #[.int .i64 a0_0, .int .i64 a0_1, .slice (some ad136) l0_2.length c0_2] 24 (0, 0)) (bkx BK127) hg (Kd.R_ne HO_9.out BK127.out (by decide))); have n3_ := Aside0.mk (blk_grown (g := gb128) (o := .cells #[.int .i64 0, .int .i64 0, .slice none 0 0] 24 (0, 0)) (bkx BK128) hg (Kd.R_ne HO_9.out BK128.out (by decide))); have n4_ := Aside0.mk ((by rw [hw]; exact below_set (HB.out) GB44.out : Below w.heap.size w w48)); clear HO_7; clear HO_9; clear BK127; clear BK128; clear HB; have HO_7 := n0_; have HO_9 := n1_; have BK127 := n2_; have BK128 := n3_; have HB := n4_; clear n0_ n1_ n2_ n3_ n4_; clear hg hw hp_))
                  (try simp only [← hl9_2])
                  go_roundg k2
                  case measure => have := HK1.out; have := HK2.out; omega
                  case rel => exact ⟨(y137), (wrap64 (x47_2 + 1)), (by first | rfl | (simp; done) | (simp [*]; done)), H', ⟨by have := HK1.out; have := HK2.out; omega⟩, ⟨by (try simp only [hl9_2]); refine rkt ?_; exact Kd.R_mono HO_7.out (fun _ hk => hk.2)⟩, ⟨by (try simp only [hl9_2]); refine rkt ?_; exact HO_9.out⟩, ⟨by (try simp only [hl9_2]); refine bkt ?_; exact BK127.out⟩, ⟨by (try simp only [hl9_2]); refine bkt ?_; exact BK128.out⟩, ⟨hb2 HB GE127 GE128⟩⟩
                 ·rw [if_neg c43] at H
                  exact absurd H (by simp)
                ·rw [if_neg c42] at H
                 exact absurd H (by simp)
               ·rw [if_neg c41] at H
                exact absurd H (by simp)
              ·rw [if_neg c40] at H
               exact absurd H (by simp)
             ·rw [if_neg c38] at H
              have c38b0 : decide (x47_2 < (y133.length : Int)) = false := decide_eq_false c38
              (try simp only [hl9_2] at c38b0)
              clear c38
              obtain ⟨ji49, hji49⟩ : ∃ j_ : Int, (wrap64 (x39_1 * a0_0)) = j_ := ⟨_, rfl⟩
              replace H : (if 0 ≤ (ji49) then (if (ji49) ≤ (x7_1.length : Int) then ((printing_window.f k2 x9_2 a1 255).bind fun t142 => (printing_Blur.l0 k2 a1 (wrap64 ((wrap64 (2 * a1)) + 1)) (copyIn x7_1 (((ji49) : Int).toNat) (x7_1.length - ((ji49) : Int).toNat) t142) a0_1 (wrap64 (x39_1 + 1)) a0_0 a0_1 l0_2)) else (none)) else (none)) = some (r1, r2, r3, r4) := by first | (rw [hji49] at H; exact H) | (simp only [hji49] at H ⊢; exact H)
              have hji49w : (IntKind.i64.wrap (x39_1 * a0_0)) = ji49 := (i64_w _).trans hji49
              by_cases c50 : 0 ≤ (ji49)
              ·rw [if_pos c50] at H
               have c50b0 := eq_true c50
               have c50b1 : decide (0 ≤ (ji49)) = true := decide_eq_true c50
               clear c50
               by_cases c51 : (ji49) ≤ (x7_1.length : Int)
               ·rw [if_pos c51] at H
                have c51b0 := eq_true c51
                have c51b1 : decide ((ji49) ≤ (x7_1.length : Int)) = true := decide_eq_true c51
                clear c51
                obtain ⟨y138, hy138⟩ : ∃ y_ : List Int, y_ = (x7_1.drop ((ji49) : Int).toNat) := ⟨_, rfl⟩
                replace H : ((printing_window.f k2 x9_2 a1 255).bind fun t142 => (printing_Blur.l0 k2 a1 (wrap64 ((wrap64 (2 * a1)) + 1)) (copyIn x7_1 (((ji49) : Int).toNat) (x7_1.length - ((ji49) : Int).toNat) t142) a0_1 (wrap64 (x39_1 + 1)) a0_0 a0_1 l0_2)) = some (r1, r2, r3, r4) := by first | (rw [hy138]; with_reducible exact H) | (have H2_ := (Option.bind_some _ _).symm.trans H; rw [hy138]; with_reducible exact H2_) | (have H2_ := (Option.bind_some _ _).symm.trans H; with_reducible exact H2_) | with_reducible exact H | (rw [hy138]; exact H) | exact H
                have Ny138 := Aside0.mk hy138
                clear hy138
                replace H := Option.bind_eq_some_iff.mp H
                obtain ⟨t142, A520, H⟩ := H
                replace H : (printing_Blur.l0 k2 a1 (wrap64 ((wrap64 (2 * a1)) + 1)) (copyIn x7_1 (((ji49) : Int).toNat) (x7_1.length - ((ji49) : Int).toNat) t142) a0_1 (wrap64 (x39_1 + 1)) a0_0 a0_1 l0_2) = some (r1, r2, r3, r4) := H
                have A52 := Aside0.mk A520
                clear A520
                obtain ⟨y145, hy145⟩ : ∃ y_ : List Int, y_ = (copyIn x7_1 (((ji49) : Int).toNat) (x7_1.length - ((ji49) : Int).toNat) t142) := ⟨_, rfl⟩
                replace H : (printing_Blur.l0 k2 a1 (wrap64 ((wrap64 (2 * a1)) + 1)) y145 a0_1 (wrap64 (x39_1 + 1)) a0_0 a0_1 l0_2) = some (r1, r2, r3, r4) := by first | (rw [hy145]; with_reducible exact H) | (have H2_ := (Option.bind_some _ _).symm.trans H; rw [hy145]; with_reducible exact H2_) | (have H2_ := (Option.bind_some _ _).symm.trans H; with_reducible exact H2_) | with_reducible exact H | (rw [hy145]; exact H) | exact H
                have Ny145 := Aside0.mk hy145
                clear hy145
                have H' := Aside0.mk H
                clear H
                try go_wp2
                have n0_ := Aside0.mk (Kd.R_drew HO_7.out)
                have n1_ := Aside0.mk (Kd.R_drew HO_9.out)
                have n2_ := Aside0.mk (blk_drew BK127.out)
                have n3_ := Aside0.mk (blk_drew BK128.out)
                have n4_ := Aside0.mk (below_drew1 HB.out)
                clear HO_7
                clear HO_9
                clear BK127
                clear BK128
                clear HB
                have HO_7 := n0_
                have HO_9 := n1_
                have BK127 := n2_
                have BK128 := n3_
                have HB := n4_
                clear n0_ n1_ n2_ n3_ n4_
                obtain ⟨Ao55, co55, eo55⟩ := Kd.R_slice HO_7.out
                (first | subst eo55 | (injection eo55 with f1_ f2_ f3_; have f4_ := f1_.symm; have f5_ := f3_.symm; clear f1_ f2_ f3_; subst f4_; subst f5_))
                have q54 : ((ji49) : Int) ≤ ((x7_1.length : Int) : Int) := of_decide_eq_true (by first | (with_reducible assumption) | assumption)
                obtain ⟨i054, hi054, _, hsz54, _⟩ := info_parts info3
                have hroom54 : x7_1.length ≤ co55 := (Kd.R_reads' HO_7.out).2.1
                have hC54 : Kd.C (Kd.int .i64) _ Ao55 x7_1.length x7_1 := (Kd.R_reads' HO_7.out).2.2
                have q054 : (0 : Int) ≤ ((ji49) : Int) := of_decide_eq_true (by first | (with_reducible assumption) | assumption)
                have hcut54 := cut_from (P := Try.prog) 51 3 .i64 Try.underlying51 hi054 1 hsz54 Ao55 x7_1.length co55 (ji49) q054 q54
                have hr54 := Kd.C_drop (m := ((ji49) : Int).toNat) (c := co55) hC54 (by omega) hroom54
                obtain ⟨A54, hA54⟩ : ∃ A1, A1 = (if co55 = ((ji49) : Int).toNat then Ao55 else (Ao55 : Option Addr).map (·.add (((ji49) : Int).toNat * 1))) := ⟨_, rfl⟩
                obtain ⟨c54, hc54⟩ : ∃ c1, c1 = co55 - ((ji49) : Int).toNat := ⟨_, rfl⟩
                have hy54 : y138.length = x7_1.length - ((ji49) : Int).toNat := (by rw [Ny138.out, List.length_drop] <;> omega)
                rw [show (x7_1).drop ((ji49) : Int).toNat = y138 from Ny138.out.symm] at hr54
                replace hr54 : Kd.C (Kd.int .i64) _ A54 y138.length y138 := (by rw [hA54]; exact hr54)
                rw [← hy54, ← hA54, ← hc54] at hcut54
                have HR141 := Aside0.mk hr54
                have HC141 := Aside0.mk (show y138.length ≤ c54 from by rw [hy54, hc54]; exact Nat.sub_le_sub_right hroom54 _)
                clear hr54 hC54 hroom54 hi054 hsz54 hc54
                have KY54 := Aside0.mk hy54
                have KA54 := Aside0.mk hA54
                clear hy54 hA54
                have KL54 := Aside0.mk (show ((ji49) : Int).toNat ≤ x7_1.length from by omega)
                replace q54 := eq_true q54
                refine start_ (n := 10) (S := fun w' => w'.cell? ⟨gb127, 0, none⟩ = some (.int .i64 a0_0) ∧ w'.cell? ⟨gb127, 1, none⟩ = some (.int .i64 a0_1) ∧ w'.cell? ⟨gb127, 2, none⟩ = some (.slice A0_2 l0_2.length c0_2)) (ds := []) (bA 10 0) (by kernel_rfl) rfl rfl ⟨(blk_cell BK127.out 0).trans rfl, (blk_cell BK127.out 1).trans rfl, (blk_cell BK127.out 2).trans rfl⟩ (fun hHeld => ?_); refine with_tabW printing_Blur.tab16 printing_Blur.bits16 (fun HT_ HW_ => ?_)
                generalize wr.drew = w53 at HO_7 HO_9 BK127 BK128 HB HR141 hHeld ⊢
                refine pt HT_ 0 65 ?_
                refine pt HT_ 1 66 ?_
                refine pt HT_ 2 67 ?_
                refine pt HT_ 6 71 ?_
                refine pt HT_ 7 72 ?_
                refine tk HT_ HW_ hHeld 3 68 ?_
                refine pt HT_ 4 69 ?_
                refine pt HT_ 5 70 ?_
                refine one_ (i := 8) (N := some 73) (bA 10 511) rfl rfl (one_of HT_.out (by kernel_rfl)) (by decide) (fun K hK => ?_)
                refine goes_ Try.func31 (by kernel_rfl) rfl #[.slice Ao37 x9_2.length co37, .int .i64 a1, .int .i64 255] (by rfl) rfl rfl mapx ?_
                with_reducible refine (printing_window.calls k2 _ _ x9_2 a1 255 t142 _ ?side1 ?side2 A52.out).mono ?_
                (case side1 => repeat (first | exact (Kd.R_reads' HO_9.out).2.2 | (with_reducible refine Kd.C_alloc ?_ _) | (with_reducible refine Kd.C_drewN ?_ _) | (with_reducible refine Kd.C_drew ?_)))
                (case side2 => exact (Kd.R_reads' HO_9.out).2.1)
                rintro e w56 ⟨v143, rfl, ho0, hb⟩
                refine ⟨_, rfl, ?_⟩
                have n0_ := Aside0.mk (Kd.R_elder' (rkx HO_7) (Kd.R_base ho0) hb)
                have n1_ := Aside0.mk (Kd.R_elder' (rkx HO_9) (Kd.R_base ho0) hb)
                have n2_ := Aside0.mk (Kd.R_lower (Kd.R_new' (Kd.R_new' ho0 (Kd.R_lt (rkx HO_7))) (Kd.R_lt (rkx HO_9))) (below_size (hb2 HB GE127 GE128)))
                have n3_ := Aside0.mk (blk_below (bkx BK127) hb)
                have n4_ := Aside0.mk (blk_below (bkx BK128) hb)
                have n5_ := Aside0.mk (Kd.C_below (by repeat (first | (with_reducible exact HR141.out) | (with_reducible refine Kd.C_alloc ?_ _) | (with_reducible refine Kd.C_drewN ?_ _) | (with_reducible refine Kd.C_drew ?_) | exact HR141.out)) hb)
                have n6_ := Aside0.mk (below_step (hb2 HB GE127 GE128) hb)
                clear HO_7
                clear HO_9
                clear BK127
                clear BK128
                clear HR141
                clear HB
                have HO_7 := n0_
                have HO_9 := n1_
                have HO144 := n2_
                have BK127 := n3_
                have BK128 := n4_
                have HR141 := n5_
                have HB := n6_
                clear n0_ n1_ n2_ n3_ n4_ n5_ n6_
                (try clear hb)
                (try clear hb2)
                (try clear hk)
                (try clear hi)
                (try clear ho0)
                obtain ⟨Ao58, co58, eo58⟩ := Kd.R_slice HO144.out
                (first | subst eo58 | (injection eo58 with f1_ f2_ f3_; have f4_ := f1_.symm; have f5_ := f3_.symm; clear f1_ f2_ f3_; subst f4_; subst f5_))
                refine hK.out _ _ ⟨(blk_cell BK127.out 0).trans rfl, (blk_cell BK127.out 1).trans rfl, (blk_cell BK127.out 2).trans rfl⟩ (fun hHeld => ?_)
                clear hK K
                refine norm_ (a' := ?_) ?_ ?_
                rotate_left
                ·show Act.put _ (some 73) _ = _
                 simp only [Act.put, List.setIfInBounds_toArray, List.set_cons_zero, List.set_cons_succ, i64_w, i32_w]
                 rfl
                refine one_ (i := 9) (N := some 74) (bA 10 1023) rfl rfl (one_of HT_.out (by kernel_rfl)) (by decide) (fun K hK => ?_)
                refine R_copyin_step (enc := (Value.int .i64)) (h1 := fun _ => rfl) (xs := x7_1) (A0 := Ao55) (n0 := x7_1.length) (c0 := co55) (w0 := w) (ok := (fun k_ => some k_ ≠ (.slice Ao37 x9_2.length co37 : Value).ownBlock ∧ some k_ ≠ (.slice Ao58 t142.length co58 : Value).ownBlock)) w.heap.size (by rfl) (.tmp 70) (.tmp 73) 51 51 3 rfl Try.underlying51 (by kernel_rfl) (((ji49) : Int).toNat) t142 rfl rfl ?hA ?hm ?hO ?hR (hb2 HB GE127 GE128) (below_size (hb2 HB GE127 GE128)) ?_
                (case hA => exact KA54.out)
                (case hm => have ha_ := KY54.out; have hb_ := KL54.out; have hc_ := (Kd.R_reads' HO_7.out).1; omega)
                (case hO => exact (rkx HO_7))
                (case hR => repeat (first | exact (Kd.R_reads' HO144.out).2.2 | (with_reducible refine Kd.C_alloc ?_ _) | (with_reducible refine Kd.C_drewN ?_ _) | (with_reducible refine Kd.C_drew ?_)))
                intro w57 q_ ho hb hg
                have hm_ : y138.length = x7_1.length - ((ji49) : Int).toNat := (by have ha_ := KY54.out; have hb_ := KL54.out; have hc_ := (Kd.R_reads' HO_7.out).1; omega)
                rw [hm_, ← Ny145.out] at ho
                clear hm_
                have n0_ := Aside0.mk (ho)
                have n1_ := Aside0.mk (Kd.R_after (v := (.slice Ao55 x7_1.length co55)) (v1 := (.slice Ao55 x7_1.length co55)) (ok := (fun k_ => some k_ ≠ (.slice Ao58 t142.length co58 : Value).ownBlock)) (by refine rkt ?_; exact Kd.R_mono HO_9.out (fun _ hk => ⟨hk.2, hk.1⟩)) hg (.inl rfl))
                have n2_ := Aside0.mk (blk_grown (g := gb127) (o := .cells #[.int .i64 a0_0, .int .i64 a0_1, .slice A0_2 l0_2.length c0_2] 24 (0, 0)) (bkx BK127) hg (Kd.R_ne HO_7.out BK127.out (by decide)))
                have n3_ := Aside0.mk (blk_grown (g := gb128) (o := .cells #[.int .i64 0, .int .i64 0, .slice none 0 0] 24 (0, 0)) (bkx BK128) hg (Kd.R_ne HO_7.out BK128.out (by decide)))
                have n4_ := Aside0.mk (Kd.R_after (v := (.slice Ao55 x7_1.length co55)) (v1 := (.slice Ao55 x7_1.length co55)) (ok := (fun k_ => some k_ ≠ (.slice Ao37 x9_2.length co37 : Value).ownBlock)) (by refine rkt ?_; exact Kd.R_mono HO144.out (fun _ hk => ⟨hk.2, hk.1.2⟩)) hg (.inl rfl))
                have n5_ := Aside0.mk (hb)
                clear HO_7
                clear HO_9
                clear BK127
                clear BK128
                clear HO144
                clear HB
                have HO_7 := n0_
                have HO_9 := n1_
                have BK127 := n2_
                have BK128 := n3_
                have HO144 := n4_
                have HB := n5_
                clear n0_ n1_ n2_ n3_ n4_ n5_
                clear ho hb hg
                refine hK.out _ _ ⟨(blk_cell BK127.out 0).trans rfl, (blk_cell BK127.out 1).trans rfl, (blk_cell BK127.out 2).trans rfl⟩ (fun hHeld => ?_)
                clear hK K
                refine norm_ (a' := ?_) ?_ ?_
                rotate_left
                ·show Act.put _ (some 74) _ = _
                 simp only [Act.put, List.setIfInBounds_toArray, List.set_cons_zero, List.set_cons_succ, i64_w, i32_w]
                 rfl
                refine done_ (done_of HT_.out (by kernel_rfl)) ?_
                try go_wp2
                (try simp only [← hl9_2])
                go_roundg k2
                case measure => have := HK1.out; have := HK2.out; omega
                case rel => exact ⟨(y145), (wrap64 (x39_1 + 1)), (by first | rfl | (simp; done) | (simp [*]; done)), H', ⟨by have := HK1.out; have := HK2.out; omega⟩, ⟨by (try simp only [hl9_2]); refine rkt ?_; exact Kd.R_mono HO_7.out (fun _ hk => trivial)⟩, ⟨by (try simp only [hl9_2]); refine bkt ?_; exact BK127.out⟩, ⟨by (try simp only [hl9_2]); refine bkt ?_; exact BK128.out⟩, ⟨hb2 HB GE127 GE128⟩⟩
               ·rw [if_neg c51] at H
                exact absurd H (by simp)
              ·rw [if_neg c50] at H
               exact absurd H (by simp)
          ·rw [if_neg c32] at H
           exact absurd H (by simp)
         ·rw [if_neg c31] at H
          exact absurd H (by simp)
        ·rw [if_neg c30] at H
         have c30b0 : decide (x39_1 < a0_1) = false := decide_eq_false c30
         clear c30
         by_cases c59 : 0 ≤ (l0_2.length : Int)
         ·rw [if_pos c59] at H
          have c59b0 := eq_true c59
          have c59b1 : decide (0 ≤ (l0_2.length : Int)) = true := decide_eq_true c59
          clear c59
          by_cases c60 : ((l0_2.length : Int) : Int).toNat ≤ 281474976710656
          ·rw [if_pos c60] at H
           have c60b0 := eq_true c60
           have c60b1 : decide (((l0_2.length : Int) : Int).toNat ≤ 281474976710656) = true := decide_eq_true c60
           clear c60
           obtain ⟨y146, hy146⟩ : ∃ y_ : List Int, y_ = (List.replicate ((l0_2.length : Int) : Int).toNat 0) := ⟨_, rfl⟩
           replace H : (printing_Blur.l2 k1 a1 (wrap64 ((wrap64 (2 * a1)) + 1)) x7_1 a0_0 0 a0_0 a0_1 l0_2 a0_0 a0_1 y146) = some (r1, r2, r3, r4) := by first | (rw [hy146]; with_reducible exact H) | (have H2_ := (Option.bind_some _ _).symm.trans H; rw [hy146]; with_reducible exact H2_) | (have H2_ := (Option.bind_some _ _).symm.trans H; with_reducible exact H2_) | with_reducible exact H | (rw [hy146]; exact H) | exact H
           have Ny146 := Aside0.mk hy146
           clear hy146
           have H' := Aside0.mk H
           clear H
           try go_wp2
           have n0_ := Aside0.mk (Kd.R_drew HO_7.out)
           have n1_ := Aside0.mk (blk_drew BK127.out)
           have n2_ := Aside0.mk (blk_drew BK128.out)
           have n3_ := Aside0.mk (below_drew1 HB.out)
           clear HO_7
           clear BK127
           clear BK128
           clear HB
           have HO_7 := n0_
           have BK127 := n1_
           have BK128 := n2_
           have HB := n3_
           clear n0_ n1_ n2_ n3_
           refine start_ (n := 11) (S := fun w' => w'.cell? ⟨gb127, 0, none⟩ = some (.int .i64 a0_0) ∧ w'.cell? ⟨gb127, 1, none⟩ = some (.int .i64 a0_1) ∧ w'.cell? ⟨gb127, 2, none⟩ = some (.slice A0_2 l0_2.length c0_2)) (ds := []) (bA 11 0) (by kernel_rfl) rfl rfl ⟨(blk_cell BK127.out 0).trans rfl, (blk_cell BK127.out 1).trans rfl, (blk_cell BK127.out 2).trans rfl⟩ (fun hHeld => ?_); refine with_tabW printing_Blur.tab18 printing_Blur.bits18 (fun HT_ HW_ => ?_)
           generalize wr.drew = w61 at HO_7 BK127 BK128 HB hHeld ⊢
           refine pt HT_ 0 76 ?_
           refine pt HT_ 2 78 ?_
           refine pt HT_ 4 80 ?_
           refine tk HT_ HW_ hHeld 1 77 ?_
           refine tk HT_ HW_ hHeld 3 79 ?_
           refine tk HT_ HW_ hHeld 5 81 ?_
           refine pt HT_ 6 82 ?_
           refine join_ (σ := Value × Nat) 1 (bA 11 1023) (fun s_ => [(83, s_.1), (11, .pointer (some ⟨s_.2, 0, none⟩)), (84, .agg #[.int .i64 a0_0, .int .i64 a0_1, s_.1])]) (fun s_ w' => (w'.cell? ⟨gb127, 0, none⟩ = some (.int .i64 a0_0) ∧ w'.cell? ⟨gb127, 1, none⟩ = some (.int .i64 a0_1) ∧ w'.cell? ⟨gb127, 2, none⟩ = some (.slice A0_2 l0_2.length c0_2)) ∧ (Kd.R (Kd.int .u8) 5 w' w.heap.size (fun _ => True) s_.1 y146) ∧ (Kd.R (Kd.int .i64) 3 w' w.heap.size (fun _ => True) v131 x7_1) ∧ (w'.heap[gb127]? = some (.cells #[.int .i64 a0_0, .int .i64 a0_1, .slice A0_2 l0_2.length c0_2] 24 (0, 0))) ∧ (w'.heap[gb128]? = some (.cells #[.int .i64 0, .int .i64 0, .slice none 0 0] 24 (0, 0))) ∧ (w'.heap[s_.2]? = some (.cells #[.int .i64 0, .int .i64 0, .slice none 0 0] 24 (0, 0))) ∧ (w.heap.size ≤ s_.2) ∧ (w.heap.size ≤ s_.2) ∧ (gb127 ≠ s_.2) ∧ (s_.2 ≠ gb127) ∧ (gb128 ≠ s_.2) ∧ (s_.2 ≠ gb128) ∧ (Below w.heap.size w w')) ?_ ?_
           rotate_left
           ·intro hCont
            refine two_ (i := 7) (j := 9) (Ni := some 83) (Nj := some 11) (bA 11 255) (bA 11 639) rfl rfl rfl rfl (two_of HT_.out (by kernel_rfl)) (by decide) (by decide) (fun K hK => ?_) (fun K hK => ?_)
            ·skip
             refine Kd.R_make_step (Kd.int .u8) _ 5 (by rfl) (N := 83) rfl 22 _ _ rfl (l0_2.length : Int) rfl rfl Try.underlying22 (.int .u8 0) 1 info5 rfl (by decide) (by omega) 0 (ok := fun _ => True) (okp := fun _ => True) rfl (fun _ hk => hk) trivial (of_decide_eq_true (by first | (with_reducible assumption) | assumption)) (Nat.le_trans (Nat.mul_le_mul_right _ (of_decide_eq_true (by first | (with_reducible assumption) | assumption) : (l0_2.length : Int).toNat ≤ 281474976710656)) (by omega)) (Below.refl _ _) (Nat.le_refl _) ?_
             intro v147 w62 ho63 hb hg_ hnew_
             clear hg_ hnew_
             (first | rw [← Ny146.out] at ho63 | (simp only [Int.reduceToNat] at ho63; rw [← Ny146.out] at ho63))
             have n0_ := Aside0.mk (Kd.R_below (rkx HO_7) hb)
             have n1_ := Aside0.mk (Kd.R_lower ho63 (below_size (hb2 HB GE127 GE128)))
             have n2_ := Aside0.mk (blk_below (bkx BK127) hb)
             have n3_ := Aside0.mk (blk_below (bkx BK128) hb)
             have n4_ := Aside0.mk (below_step (hb2 HB GE127 GE128) hb)
             clear HO_7
             clear BK127
             clear BK128
             clear HB
             have HO_7 := n0_
             have HO148 := n1_
             have BK127 := n2_
             have BK128 := n3_
             have HB := n4_
             clear n0_ n1_ n2_ n3_ n4_
             clear hb ho63
             obtain ⟨Ao64, co64, eo64⟩ := Kd.R_slice HO148.out
             (first | subst eo64 | (injection eo64 with f1_ f2_ f3_; have f4_ := f1_.symm; have f5_ := f3_.symm; clear f1_ f2_ f3_; subst f4_; subst f5_))
             refine hK.out _ _ ⟨(blk_cell BK127.out 0).trans rfl, (blk_cell BK127.out 1).trans rfl, (blk_cell BK127.out 2).trans rfl⟩ (fun hHeld => ?_)
             clear hK K
             refine norm_ (a' := ?_) ?_ ?_
             rotate_left
             ·show Act.put _ (some 83) _ = _
              simp only [Act.put, List.setIfInBounds_toArray, List.set_cons_zero, List.set_cons_succ, i64_w, i32_w]
              rfl
             refine pt HT_ 8 84 ?_
             refine one_ (i := 9) (N := some 11) (bA 11 1023) rfl rfl (one_of HT_.out (by kernel_rfl)) (by decide) (fun K hK => ?_)
             refine box_step ?hg (N := 11) ?hd (cs := #[.int .i64 0, .int .i64 0, .slice none 0 0]) (t := 24) ?hr ?_; (case hd => rfl); (case hg => rfl); (case hr => first | (go_simp; done) | (go_simp; rfl))
             intro gb149 hg w65 hbox hb
             have n0_ := Aside0.mk (Kd.R_below (rkx HO_7) hb)
             have n1_ := Aside0.mk (Kd.R_below (rkx HO148) hb)
             have n2_ := Aside0.mk (blk_below (bkx BK127) hb)
             have n3_ := Aside0.mk (blk_below (bkx BK128) hb)
             have n4_ := Aside0.mk (below_step (hb2 HB GE127 GE128) hb)
             have n5_ := Aside0.mk (hbox)
             have n6_ := Aside0.mk ((by rw [hg]; exact (below_size (hb2 HB GE127 GE128)) : w.heap.size ≤ gb149))
             have n7_ := Aside0.mk ((by rw [hg]; exact (below_size (hb2 HB GE127 GE128)) : w.heap.size ≤ gb149))
             have n8_ := Aside0.mk (nel hg BK127 : gb127 ≠ gb149)
             have n9_ := Aside0.mk (neg hg BK127 : gb149 ≠ gb127)
             have n10_ := Aside0.mk (nel hg BK128 : gb128 ≠ gb149)
             have n11_ := Aside0.mk (neg hg BK128 : gb149 ≠ gb128)
             clear HO_7
             clear HO148
             clear BK127
             clear BK128
             clear HB
             have HO_7 := n0_
             have HO148 := n1_
             have BK127 := n2_
             have BK128 := n3_
             have HB := n4_
             have BK149 := n5_
             have GW149 := n6_
             have GE149 := n7_
             have NB127_149 := n8_
             have NB149_127 := n9_
             have NB128_149 := n10_
             have NB149_128 := n11_
             clear n0_ n1_ n2_ n3_ n4_ n5_ n6_ n7_ n8_ n9_ n10_ n11_
             clear hb hbox hg
             refine hK.out _ _ ⟨(blk_cell BK127.out 0).trans rfl, (blk_cell BK127.out 1).trans rfl, (blk_cell BK127.out 2).trans rfl⟩ (fun hHeld => ?_)
             clear hK K
             refine norm_ (a' := ?_) ?_ ?_
             rotate_left
             ·show Act.put _ (some 11) _ = _
              simp only [Act.put, List.setIfInBounds_toArray, List.set_cons_zero, List.set_cons_succ, i64_w, i32_w]
              rfl
             exact norm_ (by simp only [putAll, Act.put, List.setIfInBounds_toArray, List.set_cons_zero, List.set_cons_succ]) (hCont (.slice Ao64 y146.length co64, gb149) _ ⟨hHeld, (rkx HO148), (rkx HO_7), (bkx BK127), (bkx BK128), (bkx BK149), GW149.out, GE149.out, NB127_149.out, NB149_127.out, NB128_149.out, NB149_128.out, (hb3 HB GE127 GE128 GE149)⟩)
            ·skip
             refine box_step ?hg (N := 11) ?hd (cs := #[.int .i64 0, .int .i64 0, .slice none 0 0]) (t := 24) ?hr ?_; (case hd => rfl); (case hg => rfl); (case hr => first | (go_simp; done) | (go_simp; rfl))
             intro gb149 hg w62 hbox hb
             have n0_ := Aside0.mk (Kd.R_below (rkx HO_7) hb)
             have n1_ := Aside0.mk (blk_below (bkx BK127) hb)
             have n2_ := Aside0.mk (blk_below (bkx BK128) hb)
             have n3_ := Aside0.mk (below_step (hb2 HB GE127 GE128) hb)
             have n4_ := Aside0.mk (hbox)
             have n5_ := Aside0.mk ((by rw [hg]; exact (below_size (hb2 HB GE127 GE128)) : w.heap.size ≤ gb149))
             have n6_ := Aside0.mk ((by rw [hg]; exact (below_size (hb2 HB GE127 GE128)) : w.heap.size ≤ gb149))
             have n7_ := Aside0.mk (nel hg BK127 : gb127 ≠ gb149)
             have n8_ := Aside0.mk (neg hg BK127 : gb149 ≠ gb127)
             have n9_ := Aside0.mk (nel hg BK128 : gb128 ≠ gb149)
             have n10_ := Aside0.mk (neg hg BK128 : gb149 ≠ gb128)
             clear HO_7
             clear BK127
             clear BK128
             clear HB
             have HO_7 := n0_
             have BK127 := n1_
             have BK128 := n2_
             have HB := n3_
             have BK149 := n4_
             have GW149 := n5_
             have GE149 := n6_
             have NB127_149 := n7_
             have NB149_127 := n8_
             have NB128_149 := n9_
             have NB149_128 := n10_
             clear n0_ n1_ n2_ n3_ n4_ n5_ n6_ n7_ n8_ n9_ n10_
             clear hb hbox hg
             refine hK.out _ _ ⟨(blk_cell BK127.out 0).trans rfl, (blk_cell BK127.out 1).trans rfl, (blk_cell BK127.out 2).trans rfl⟩ (fun hHeld => ?_)
             clear hK K
             refine norm_ (a' := ?_) ?_ ?_
             rotate_left
             ·show Act.put _ (some 11) _ = _
              simp only [Act.put, List.setIfInBounds_toArray, List.set_cons_zero, List.set_cons_succ, i64_w, i32_w]
              rfl
             refine one_ (i := 7) (N := some 83) (bA 11 767) rfl rfl (one_of HT_.out (by kernel_rfl)) (by decide) (fun K hK => ?_)
             refine Kd.R_make_step (Kd.int .u8) _ 5 (by rfl) (N := 83) rfl 22 _ _ rfl (l0_2.length : Int) rfl rfl Try.underlying22 (.int .u8 0) 1 info5 rfl (by decide) (by omega) 0 (ok := fun _ => True) (okp := fun _ => True) rfl (fun _ hk => hk) trivial (of_decide_eq_true (by first | (with_reducible assumption) | assumption)) (Nat.le_trans (Nat.mul_le_mul_right _ (of_decide_eq_true (by first | (with_reducible assumption) | assumption) : (l0_2.length : Int).toNat ≤ 281474976710656)) (by omega)) (Below.refl _ _) (Nat.le_refl _) ?_
             intro v147 w63 ho64 hb hg_ hnew_
             clear hg_ hnew_
             (first | rw [← Ny146.out] at ho64 | (simp only [Int.reduceToNat] at ho64; rw [← Ny146.out] at ho64))
             have n0_ := Aside0.mk (Kd.R_below (rkx HO_7) hb)
             have n1_ := Aside0.mk (Kd.R_lower ho64 (below_size (hb3 HB GE127 GE128 GE149)))
             have n2_ := Aside0.mk (blk_below (bkx BK127) hb)
             have n3_ := Aside0.mk (blk_below (bkx BK128) hb)
             have n4_ := Aside0.mk (blk_below (bkx BK149) hb)
             have n5_ := Aside0.mk (below_step (hb3 HB GE127 GE128 GE149) hb)
             clear HO_7
             clear BK127
             clear BK128
             clear BK149
             clear HB
             have HO_7 := n0_
             have HO148 := n1_
             have BK127 := n2_
             have BK128 := n3_
             have BK149 := n4_
             have HB := n5_
             clear n0_ n1_ n2_ n3_ n4_ n5_
             clear hb ho64
             obtain ⟨Ao65, co65, eo65⟩ := Kd.R_slice HO148.out
             (first | subst eo65 | (injection eo65 with f1_ f2_ f3_; have f4_ := f1_.symm; have f5_ := f3_.symm; clear f1_ f2_ f3_; subst f4_; subst f5_))
             refine hK.out _ _ ⟨(blk_cell BK127.out 0).trans rfl, (blk_cell BK127.out 1).trans rfl, (blk_cell BK127.out 2).trans rfl⟩ (fun hHeld => ?_)
             clear hK K
             refine norm_ (a' := ?_) ?_ ?_
             rotate_left
             ·show Act.put _ (some 83) _ = _
              simp only [Act.put, List.setIfInBounds_toArray, List.set_cons_zero, List.set_cons_succ, i64_w, i32_w]
              rfl
             refine pt HT_ 8 84 ?_
             exact norm_ (by simp only [putAll, Act.put, List.setIfInBounds_toArray, List.set_cons_zero, List.set_cons_succ]) (hCont (.slice Ao65 y146.length co65, gb149) _ ⟨hHeld, (rkx HO148), (rkx HO_7), (bkx BK127), (bkx BK128), (bkx BK149), GW149.out, GE149.out, NB127_149.out, NB149_127.out, NB128_149.out, NB149_128.out, (hb3 HB GE127 GE128 GE149)⟩)
           rintro ⟨v147, gb149⟩ w66 ⟨hS_, h0_, h1_, h2_, h3_, h4_, h5_, h6_, h7_, h8_, h9_, h10_, h11_⟩
           have n0_ : Aside0 (Kd.R (Kd.int .u8) 5 w66 w.heap.size (fun _ => True) v147 y146) := ⟨h0_⟩
           have n1_ : Aside0 (Kd.R (Kd.int .i64) 3 w66 w.heap.size (fun _ => True) v131 x7_1) := ⟨h1_⟩
           have n2_ : Aside0 (w66.heap[gb127]? = some (.cells #[.int .i64 a0_0, .int .i64 a0_1, .slice A0_2 l0_2.length c0_2] 24 (0, 0))) := ⟨h2_⟩
           have n3_ : Aside0 (w66.heap[gb128]? = some (.cells #[.int .i64 0, .int .i64 0, .slice none 0 0] 24 (0, 0))) := ⟨h3_⟩
           have n4_ : Aside0 (w66.heap[gb149]? = some (.cells #[.int .i64 0, .int .i64 0, .slice none 0 0] 24 (0, 0))) := ⟨h4_⟩
           have n5_ : Aside0 (w.heap.size ≤ gb149) := ⟨h5_⟩
           have n6_ : Aside0 (w.heap.size ≤ gb149) := ⟨h6_⟩
           have n7_ : Aside0 (gb127 ≠ gb149) := ⟨h7_⟩
           have n8_ : Aside0 (gb149 ≠ gb127) := ⟨h8_⟩
           have n9_ : Aside0 (gb128 ≠ gb149) := ⟨h9_⟩
           have n10_ : Aside0 (gb149 ≠ gb128) := ⟨h10_⟩
           have n11_ : Aside0 (Below w.heap.size w w66) := ⟨h11_⟩
           clear HO_7
           clear BK127
           clear BK128
           clear HB
           clear h0_ h1_ h2_ h3_ h4_ h5_ h6_ h7_ h8_ h9_ h10_ h11_
           have HO148 := n0_
           have HO_7 := n1_
           have BK127 := n2_
           have BK128 := n3_
           have BK149 := n4_
           have GW149 := n5_
           have GE149 := n6_
           have NB127_149 := n7_
           have NB149_127 := n8_
           have NB128_149 := n9_
           have NB149_128 := n10_
           have HB := n11_
           clear n0_ n1_ n2_ n3_ n4_ n5_ n6_ n7_ n8_ n9_ n10_ n11_
           have hHeld : w66.cell? ⟨gb127, 0, none⟩ = some (.int .i64 a0_0) ∧ w66.cell? ⟨gb127, 1, none⟩ = some (.int .i64 a0_1) ∧ w66.cell? ⟨gb127, 2, none⟩ = some (.slice A0_2 l0_2.length c0_2) := hS_
           obtain ⟨Ao67, co67, eo67⟩ := Kd.R_slice HO148.out
           (first | subst eo67 | (injection eo67 with f1_ f2_ f3_; have f4_ := f1_.symm; have f5_ := f3_.symm; clear f1_ f2_ f3_; subst f4_; subst f5_))
           refine norm_ (a' := ?_) ?_ ?_
           rotate_left
           ·simp only [putAll, Act.put, List.setIfInBounds_toArray, List.set_cons_zero, List.set_cons_succ]
            rfl
           refine one_ (i := 10) (N := none) (bA 11 2047) rfl rfl (one_of HT_.out (by kernel_rfl)) (by decide) (fun K hK => ?_)
           have hs68 : w66.cell? ⟨gb149, 0, none⟩ = some (.int .i64 0) := (blk_cell BK149.out 0).trans rfl
           have hfs68 := blk_frozen BK149.out 0
           have hns68_0 := NB127_149.out
           have hns68_1 := NB128_149.out
           have hms68_0 := NB149_127.out
           have hms68_1 := NB149_128.out
           have hs69 : w66.cell? ⟨gb149, 1, none⟩ = some (.int .i64 0) := (blk_cell BK149.out 1).trans rfl
           have hfs69 := blk_frozen BK149.out 1
           have hns69_0 := NB127_149.out
           have hns69_1 := NB128_149.out
           have hms69_0 := NB149_127.out
           have hms69_1 := NB149_128.out
           have hs70 : w66.cell? ⟨gb149, 2, none⟩ = some (.slice none 0 0) := (blk_cell BK149.out 2).trans rfl
           have hfs70 := blk_frozen BK149.out 2
           have hns70_0 := NB127_149.out
           have hns70_1 := NB128_149.out
           have hms70_0 := NB149_127.out
           have hms70_1 := NB149_128.out
           refine skip_ (w1 := ?_) (by rfl) rfl ?_ ?_
           rotate_left
           ·go_simp
            rfl
           refine hK.out _ _ ⟨((cell_far (p := ⟨gb149, _, none⟩) NB127_149.out _).trans (((cell_far (p := ⟨gb149, _, none⟩) NB127_149.out _).trans (((cell_far (p := ⟨gb149, _, none⟩) NB127_149.out _).trans (hHeld.1)))))), ((cell_far (p := ⟨gb149, _, none⟩) NB127_149.out _).trans (((cell_far (p := ⟨gb149, _, none⟩) NB127_149.out _).trans (((cell_far (p := ⟨gb149, _, none⟩) NB127_149.out _).trans (hHeld.2.1)))))), ((cell_far (p := ⟨gb149, _, none⟩) NB127_149.out _).trans (((cell_far (p := ⟨gb149, _, none⟩) NB127_149.out _).trans (((cell_far (p := ⟨gb149, _, none⟩) NB127_149.out _).trans (hHeld.2.2))))))⟩ (fun hHeld => ?_)
           clear hK K
           refine done_ (done_of HT_.out (by kernel_rfl)) ?_
           have hnb71 := NB127_128.out
           have hnc71 := NB128_127.out
           have hnb72 := NB127_149.out
           have hnc72 := NB149_127.out
           have hcz73_0 : w66.cell? ⟨gb127, 0, none⟩ = some (.int .i64 a0_0) := (blk_cell BK127.out 0).trans rfl
           have hcz73_1 : w66.cell? ⟨gb127, 1, none⟩ = some (.int .i64 a0_1) := (blk_cell BK127.out 1).trans rfl
           have hcz73_2 : w66.cell? ⟨gb127, 2, none⟩ = some (.slice A0_2 l0_2.length c0_2) := (blk_cell BK127.out 2).trans rfl
           have hfz73_0 := blk_frozen BK127.out 0
           have hfz73_1 := blk_frozen BK127.out 1
           have hfz73_2 := blk_frozen BK127.out 2
           try go_wp2
           go_loopg [87] k1 (fun kq v87 w' => ∃ (x7_2 : List Int) (x87_2 : Int) (x150002_2 : List Int) (u150002 : Value), v87 = .int .i64 x87_2 ∧ Aside0 (printing_Blur.l2 kq a1 (wrap64 ((wrap64 (2 * a1)) + 1)) x7_2 a0_0 x87_2 a0_0 a0_1 l0_2 a0_0 a0_1 x150002_2 = some (r1, r2, r3, r4)) ∧ Aside0 (kq ≤ k1) ∧ Aside0 (Kd.R (Kd.int .i64) 3 w' w.heap.size (fun _ => True) v131 x7_2) ∧ Aside0 (Kd.R (Kd.int .u8) 5 w' w.heap.size (fun _ => True) u150002 x150002_2) ∧ Aside0 (w'.heap[gb127]? = some (.cells #[.int .i64 a0_0, .int .i64 a0_1, (.slice A0_2 l0_2.length c0_2)] 24 (0, 0))) ∧ Aside0 (w'.heap[gb128]? = some (.cells #[.int .i64 0, .int .i64 0, (.slice none 0 0)] 24 (0, 0))) ∧ Aside0 (w'.heap[gb149]? = some (.cells #[.int .i64 a0_0, .int .i64 a0_1, u150002] 24 (0, 0))) ∧ Aside0 (Below w.heap.size w w'))
           case atStart => exact ⟨(x7_1), (0), (y146), (.slice Ao67 y146.length co67), (by first | rfl | (simp; done) | (simp [*]; done)), H', ⟨Nat.le_refl _⟩, ⟨by refine rkt ?_; exact Kd.R_mono (Kd.R_far (p := ⟨gb149, 2, none⟩) (Kd.R_far (p := ⟨gb149, 1, none⟩) (Kd.R_far (p := ⟨gb149, 0, none⟩) (Kd.R_types HO_7.out BK149.out (by decide)) (fun _ hk => hk.2) (.int .i64 a0_0)) (fun _ hk => hk.2) (.int .i64 a0_1)) (fun _ hk => hk.2) (.slice Ao67 y146.length co67)) (fun _ hk => trivial)⟩, ⟨by refine rkt ?_; exact Kd.R_mono (Kd.R_far (p := ⟨gb149, 2, none⟩) (Kd.R_far (p := ⟨gb149, 1, none⟩) (Kd.R_far (p := ⟨gb149, 0, none⟩) (Kd.R_types HO148.out BK149.out (by decide)) (fun _ hk => hk.2) (.int .i64 a0_0)) (fun _ hk => hk.2) (.int .i64 a0_1)) (fun _ hk => hk.2) (.slice Ao67 y146.length co67)) (fun _ hk => trivial)⟩, ⟨bky BK127 NB127_149⟩, ⟨bky BK128 NB128_149⟩, ⟨by refine bkt ?_; refine blk_put (cs := #[.int .i64 a0_0, .int .i64 a0_1, .slice none 0 0]) ?_ 2 _ rfl; refine bkt ?_; refine blk_put (cs := #[.int .i64 a0_0, .int .i64 0, .slice none 0 0]) ?_ 1 _ rfl; refine bkt ?_; refine blk_put (cs := #[.int .i64 0, .int .i64 0, .slice none 0 0]) ?_ 0 _ rfl; refine bkt ?_; exact BK149.out⟩, ⟨hb3 HB GE127 GE128 GE149⟩⟩
           case round =>
            clear H'
            (try clear c1); (try clear p1); (try clear q1); (try clear hx1); (try clear p2); (try clear c3); (try clear c4); (try clear p4); (try clear q4); (try clear hx4); (try clear hf4); (try clear c5); (try clear q5); (try clear c6); (try clear p6); (try clear c7); (try clear p13); (try clear q13); (try clear hx13); (try clear c30); (try clear c30b0); (try clear c31); (try clear c32); (try clear c38); (try clear c38b0); (try clear c40); (try clear c41); (try clear c42); (try clear c43); (try clear p44); (try clear q44); (try clear hx44); (try clear hf44); (try clear c50); (try clear c50b0); (try clear c50b1); (try clear c51); (try clear c51b0); (try clear c51b1); (try clear c54); (try clear q54); (try clear c59); (try clear c59b0); (try clear c59b1); (try clear c60); (try clear c60b0); (try clear c60b1); (try clear p64); (try clear c71); (try clear c72); (try clear hcz46_1); (try clear hcz46_2); (try clear hcz73_0); (try clear hcz73_1); (try clear hcz73_2); (try clear hfz46_0); (try clear hfz46_1); (try clear hfz46_2); (try clear hfz73_0); (try clear hfz73_1); (try clear hfz73_2); (try clear hx136_0); (try clear hx44_0); (try clear p136); (try clear p44); (try clear q054); (try clear q136); (try clear q44); (try clear q54)
            obtain ⟨x7_2, x87_2, x150002_2, u150002, rfl, HA, HK2, HO_7, HO_150002, BK127, BK128, BK149, HB⟩ := hrel
            cases gk with
            | zero => exact absurd HA.out (by simp [printing_Blur.l2])
            | succ k2 =>
             have H := HA.out
             clear HA
             simp only [printing_Blur.l2] at H
             by_cases c74 : x87_2 < a0_0
             ·rw [if_pos c74] at H
              have c74b0 : decide (x87_2 < a0_0) = true := decide_eq_true c74
              clear c74
              by_cases c75 : 0 ≤ a0_1
              ·rw [if_pos c75] at H
               have c75b0 := eq_true c75
               have c75b1 : decide (0 ≤ a0_1) = true := decide_eq_true c75
               clear c75
               by_cases c76 : (a0_1 : Int).toNat ≤ 35184372088832
               ·rw [if_pos c76] at H
                have c76b0 := eq_true c76
                have c76b1 : decide ((a0_1 : Int).toNat ≤ 35184372088832) = true := decide_eq_true c76
                clear c76
                obtain ⟨y150, hy150⟩ : ∃ y_ : List Int, y_ = (List.replicate (a0_1 : Int).toNat 0) := ⟨_, rfl⟩
                replace H : (printing_Blur.l3 k2 a1 (wrap64 ((wrap64 (2 * a1)) + 1)) x7_2 x87_2 y150 a0_0 x87_2 (y150.length : Int) 0 a0_0 a0_1 l0_2 a0_0 a0_1 x150002_2) = some (r1, r2, r3, r4) := by first | (rw [hy150]; with_reducible exact H) | (have H2_ := (Option.bind_some _ _).symm.trans H; rw [hy150]; with_reducible exact H2_) | (have H2_ := (Option.bind_some _ _).symm.trans H; with_reducible exact H2_) | with_reducible exact H | (rw [hy150]; exact H) | exact H
                have Ny150 := Aside0.mk hy150
                clear hy150
                have H' := Aside0.mk H
                clear H
                have hnb77 := NB127_128.out
                have hnc77 := NB128_127.out
                have hnb78 := NB127_149.out
                have hnc78 := NB149_127.out
                have hcz79_0 : wr.cell? ⟨gb127, 0, none⟩ = some (.int .i64 a0_0) := (blk_cell BK127.out 0).trans rfl
                have hcz79_1 : wr.cell? ⟨gb127, 1, none⟩ = some (.int .i64 a0_1) := (blk_cell BK127.out 1).trans rfl
                have hcz79_2 : wr.cell? ⟨gb127, 2, none⟩ = some (.slice A0_2 l0_2.length c0_2) := (blk_cell BK127.out 2).trans rfl
                have hfz79_0 := blk_frozen BK127.out 0
                have hfz79_1 := blk_frozen BK127.out 1
                have hfz79_2 := blk_frozen BK127.out 2
                go_wp2_with (first | ((with_reducible refine gate_dst (N := 92) rfl ?_); refine Kd.R_make (Kd.int .i64) _ 3 rfl (N := 92) rfl 51 _ _ rfl a0_1 rfl rfl Try.underlying51 (.int .i64 0) 8 info3 rfl (by decide) (by omega) 0 (ok := fun _ => True) (okp := fun _ => True) rfl (fun _ hk => hk) trivial (of_decide_eq_true (by first | (with_reducible assumption) | assumption)) (Nat.le_trans (Nat.mul_le_mul_right _ (of_decide_eq_true (by first | (with_reducible assumption) | assumption) : a0_1.toNat ≤ 35184372088832)) (by omega)) (Below.refl _ _) (Nat.le_refl _) ?_; intro v151 w80 ho81 hb hg_ hnew_; clear hg_ hnew_; (first | rw [← Ny150.out] at ho81 | (simp only [Int.reduceToNat] at ho81; rw [← Ny150.out] at ho81)); have n0_ := Aside0.mk (Kd.R_elder' (rkx HO_7) (Kd.R_base ho81) hb); have n1_ := Aside0.mk (Kd.R_below (rkx HO_150002) hb); have n2_ := Aside0.mk (Kd.R_lower (Kd.R_new' ho81 (Kd.R_lt (rkx HO_7))) (below_size (hb3 HB GE127 GE128 GE149))); have n3_ := Aside0.mk (blk_below (bkx BK127) hb); have n4_ := Aside0.mk (blk_below (bkx BK128) hb); have n5_ := Aside0.mk (blk_below (bkx BK149) hb); have n6_ := Aside0.mk (below_step (hb3 HB GE127 GE128 GE149) hb); clear HO_7; clear HO_150002; clear BK127; clear BK128; clear BK149; clear HB; have HO_7 := n0_; have HO_150002 := n1_; have HO152 := n2_; have BK127 := n3_; have BK128 := n4_; have BK149 := n5_; have HB := n6_; clear n0_ n1_ n2_ n3_ n4_ n5_ n6_; clear hb ho81; obtain ⟨Ao82, co82, eo82⟩ := Kd.R_slice HO152.out; subst eo82))
                go_loopg [95] k2 (fun kq v95 w' => ∃ (x13_3 : List Int) (x95_3 : Int), v95 = .int .i64 x95_3 ∧ Aside0 (printing_Blur.l3 kq a1 (wrap64 ((wrap64 (2 * a1)) + 1)) x7_2 x87_2 x13_3 a0_0 x87_2 (y150.length : Int) x95_3 a0_0 a0_1 l0_2 a0_0 a0_1 x150002_2 = some (r1, r2, r3, r4)) ∧ Aside0 (kq ≤ k2) ∧ Aside0 (Kd.R (Kd.int .i64) 3 w' w.heap.size (fun k_ => some k_ ≠ ((.slice Ao82 y150.length co82) : Value).ownBlock) v131 x7_2) ∧ Aside0 (Kd.R (Kd.int .i64) 3 w' w.heap.size (fun k_ => some k_ ≠ (v131 : Value).ownBlock) (.slice Ao82 y150.length co82) x13_3) ∧ Aside0 (Kd.R (Kd.int .u8) 5 w' w.heap.size (fun _ => True) u150002 x150002_2) ∧ Aside0 (w'.heap[gb127]? = some (.cells #[.int .i64 a0_0, .int .i64 a0_1, (.slice A0_2 l0_2.length c0_2)] 24 (0, 0))) ∧ Aside0 (w'.heap[gb128]? = some (.cells #[.int .i64 0, .int .i64 0, (.slice none 0 0)] 24 (0, 0))) ∧ Aside0 (w'.heap[gb149]? = some (.cells #[.int .i64 a0_0, .int .i64 a0_1, u150002] 24 (0, 0))) ∧ Aside0 (Below w.heap.size w w'))
                case atStart => exact ⟨(y150), (0), (by first | rfl | (simp; done) | (simp [*]; done)), H', ⟨Nat.le_refl _⟩, ⟨by refine rkt ?_; exact Kd.R_mono HO_7.out (fun _ hk => hk.2)⟩, ⟨by refine rkt ?_; exact Kd.R_mono HO152.out (fun _ hk => hk.2)⟩, ⟨rkx HO_150002⟩, ⟨bkx BK127⟩, ⟨bkx BK128⟩, ⟨bkx BK149⟩, ⟨hb3 HB GE127 GE128 GE149⟩⟩
                case round =>
                 clear H'
                 (try clear c1); (try clear p1); (try clear q1); (try clear hx1); (try clear p2); (try clear c3); (try clear c4); (try clear p4); (try clear q4); (try clear hx4); (try clear hf4); (try clear c5); (try clear q5); (try clear c6); (try clear p6); (try clear c7); (try clear p13); (try clear q13); (try clear hx13); (try clear c30); (try clear c30b0); (try clear c31); (try clear c32); (try clear c38); (try clear c38b0); (try clear c40); (try clear c41); (try clear c42); (try clear c43); (try clear p44); (try clear q44); (try clear hx44); (try clear hf44); (try clear c50); (try clear c50b0); (try clear c50b1); (try clear c51); (try clear c51b0); (try clear c51b1); (try clear c54); (try clear q54); (try clear c59); (try clear c59b0); (try clear c59b1); (try clear c60); (try clear c60b0); (try clear c60b1); (try clear p64); (try clear c71); (try clear c72); (try clear c74); (try clear c74b0); (try clear c75); (try clear c75b0); (try clear c75b1); (try clear c76); (try clear c76b0); (try clear c76b1); (try clear c77); (try clear c78); (try clear hcz46_1); (try clear hcz46_2); (try clear hcz73_0); (try clear hcz73_1); (try clear hcz73_2); (try clear hcz79_0); (try clear hcz79_1); (try clear hcz79_2); (try clear hfz46_0); (try clear hfz46_1); (try clear hfz46_2); (try clear hfz73_0); (try clear hfz73_1); (try clear hfz73_2); (try clear hfz79_0); (try clear hfz79_1); (try clear hfz79_2); (try clear hx136_0); (try clear hx44_0); (try clear p1); (try clear p13); (try clear p136); (try clear p2); (try clear p4); (try clear p44); (try clear p6); (try clear p64); (try clear q054); (try clear q1); (try clear q13); (try clear q136); (try clear q4); (try clear q44); (try clear q5); (try clear q54)
                 obtain ⟨x13_3, x95_3, rfl, HA, HK3, HO_7, HO_13, HO_150002, BK127, BK128, BK149, HB⟩ := hrel
                 have hl13_3 := (Kd.R_reads' HO_13.out).1
                 rw [hl13_3] at HO_13
                 (try simp only [hl13_3])
                 (try simp only [hl13_3] at BK127)
                 (try simp only [hl13_3] at BK128)
                 (try simp only [hl13_3] at BK149)
                 (try simp only [hl13_3] at HO_7)
                 (try simp only [hl13_3] at HO_150002)
                 cases gk with
                 | zero => exact absurd HA.out (by simp [printing_Blur.l3])
                 | succ k3 =>
                  have H := HA.out
                  clear HA
                  simp only [printing_Blur.l3] at H
                  by_cases c83 : x95_3 < (y150.length : Int)
                  ·rw [if_pos c83] at H
                   have c83b0 : decide (x95_3 < (y150.length : Int)) = true := decide_eq_true c83
                   (try simp only [hl13_3] at c83b0)
                   clear c83
                   obtain ⟨ji84, hji84⟩ : ∃ j_ : Int, (wrap64 ((wrap64 (x95_3 * a0_0)) + x87_2)) = j_ := ⟨_, rfl⟩
                   replace H : (if 0 ≤ (ji84) then (if (ji84) < (x7_2.length : Int) then (if 0 ≤ x95_3 then (if x95_3 < (x13_3.length : Int) then (printing_Blur.l3 k3 a1 (wrap64 ((wrap64 (2 * a1)) + 1)) x7_2 x87_2 (x13_3.set (x95_3 : Int).toNat (rd x7_2 (ji84))) a0_0 x87_2 (y150.length : Int) (wrap64 (x95_3 + 1)) a0_0 a0_1 l0_2 a0_0 a0_1 x150002_2) else (none)) else (none)) else (none)) else (none)) = some (r1, r2, r3, r4) := by first | (rw [hji84] at H; exact H) | (simp only [hji84] at H ⊢; exact H)
                   have hji84w : (IntKind.i64.wrap ((wrap64 (x95_3 * a0_0)) + x87_2)) = ji84 := (i64_w _).trans hji84
                   by_cases c85 : 0 ≤ (ji84)
                   ·rw [if_pos c85] at H
                    have c85b0 : decide (0 ≤ (ji84)) = true := decide_eq_true c85
                    clear c85
                    by_cases c86 : (ji84) < (x7_2.length : Int)
                    ·rw [if_pos c86] at H
                     have c86b0 : decide ((ji84) < (x7_2.length : Int)) = true := decide_eq_true c86
                     clear c86
                     by_cases c87 : 0 ≤ x95_3
                     ·rw [if_pos c87] at H
                      have c87b0 : decide (0 ≤ x95_3) = true := decide_eq_true c87
                      clear c87
                      by_cases c88 : x95_3 < (x13_3.length : Int)
                      ·rw [if_pos c88] at H
                       have c88b0 : decide (x95_3 < (x13_3.length : Int)) = true := decide_eq_true c88
                       clear c88
                       obtain ⟨y154, hy154⟩ : ∃ y_ : List Int, y_ = (x13_3.set (x95_3 : Int).toNat (rd x7_2 (ji84))) := ⟨_, rfl⟩
                       replace H : (printing_Blur.l3 k3 a1 (wrap64 ((wrap64 (2 * a1)) + 1)) x7_2 x87_2 y154 a0_0 x87_2 (y150.length : Int) (wrap64 (x95_3 + 1)) a0_0 a0_1 l0_2 a0_0 a0_1 x150002_2) = some (r1, r2, r3, r4) := by first | (rw [hy154]; with_reducible exact H) | (have H2_ := (Option.bind_some _ _).symm.trans H; rw [hy154]; with_reducible exact H2_) | (have H2_ := (Option.bind_some _ _).symm.trans H; with_reducible exact H2_) | with_reducible exact H | (rw [hy154]; exact H) | exact H
                       have Ny154 := Aside0.mk hy154
                       clear hy154
                       have H' := Aside0.mk H
                       clear H
                       have hnb90 := NB127_128.out
                       have hnc90 := NB128_127.out
                       have hnb91 := NB127_149.out
                       have hnc91 := NB149_127.out
                       have hcz92_0 : wr.cell? ⟨gb127, 0, none⟩ = some (.int .i64 a0_0) := (blk_cell BK127.out 0).trans rfl
                       have hcz92_1 : wr.cell? ⟨gb127, 1, none⟩ = some (.int .i64 a0_1) := (blk_cell BK127.out 1).trans rfl
                       have hcz92_2 : wr.cell? ⟨gb127, 2, none⟩ = some (.slice A0_2 l0_2.length c0_2) := (blk_cell BK127.out 2).trans rfl
                       have hfz92_0 := blk_frozen BK127.out 0
                       have hfz92_1 := blk_frozen BK127.out 1
                       have hfz92_2 := blk_frozen BK127.out 2
                       obtain ⟨Ao93, co93, eo93⟩ := Kd.R_slice HO_7.out
                       subst eo93
                       have p153 : 0 ≤ ((ji84) : Int) := of_decide_eq_true (by first | (with_reducible assumption) | assumption)
                       have q153 : (ji84) < (x7_2.length : Int) := of_decide_eq_true (by first | (with_reducible assumption) | assumption)
                       obtain ⟨ad153, e153, hx153_0⟩ := Kd.at_int (Kd.R_reads' HO_7.out).2.2 (ji84) p153 q153
                       cases e153
                       replace p153 := eq_true p153
                       replace q153 := eq_true q153
                       have p89 : 0 ≤ (x95_3 : Int) := of_decide_eq_true (by first | (with_reducible assumption) | assumption)
                       have q89 : (x95_3 : Int) < ((x13_3.length : Int) : Int) := of_decide_eq_true (by first | (with_reducible assumption) | assumption)
                       obtain ⟨go89, co89, eo89, gb89, gl89, cl89, HG89⟩ := Kd.R_form HO_13.out (by omega)
                       (first | cases eo89 | (injection eo89 with ea_ en_ ec_; (first | subst ea_ | (injection ea_ with ea_; subst ea_)); subst ec_; clear en_))
                       have GB89 := Aside0.mk gb89
                       have GG89 := Aside0.mk HG89
                       clear gb89 gl89 HG89
                       obtain ⟨hx89_0, hf89_0⟩ := Kd.R_celln 0 HO_13.out (x95_3 : Int) p89 q89
                       replace p89 := eq_true p89
                       replace q89 := eq_true q89
                       have HP94 := Kd.R_putg HO_13.out (x95_3 : Int) (rd x7_2 (ji84))
                       go_wp2_with (first | ((with_reducible refine gate_store (t := 3) (p := 109) rfl ?_); refine store_event (t := 3) (p := 109) (v := ?vo_w95) (w1 := (wr.setCell ⟨go89, (x95_3 : Int).toNat, none⟩ (.int .i64 (rd x7_2 (ji84))))) ?hg ?ho ?hn ?hr ?_; (case ho => rfl); (case hg => rfl); (case hn => rfl); (case hr => first | (go_simp; done) | (go_simp; rfl)); intro w95 hw; have hg : wr.grownBy w95 (some go89) := (by rw [hw]; exact HP94.2); have hp_ : Kd.R (Kd.int .i64) 3 w95 w.heap.size (fun k_ => some k_ ≠ (.slice (some ad153) x7_2.length co93 : Value).ownBlock) (.slice (some ⟨go89, 0, none⟩) x13_3.length co82) y154 := (by rw [hw, Ny154.out]; exact HP94.1); clear HP94; have n0_ := Aside0.mk (Kd.R_after (v := (.slice (some ⟨go89, 0, none⟩) x13_3.length co82)) (v1 := (.slice (some ⟨go89, 0, none⟩) x13_3.length co82)) (ok := (fun _ => True)) (by refine rkt ?_; exact Kd.R_mono HO_7.out (fun _ hk => ⟨trivial, hk⟩)) hg (.inl rfl)); have n1_ := Aside0.mk (hp_); have n2_ := Aside0.mk (Kd.R_over' (v := (.slice (some ⟨go89, 0, none⟩) x13_3.length co82)) (rkx HO_150002) (Kd.R_typed HO_13.out) (by decide) hg); have n3_ := Aside0.mk (blk_grown (g := gb127) (o := .cells #[.int .i64 a0_0, .int .i64 a0_1, .slice A0_2 l0_2.length c0_2] 24 (0, 0)) (bkx BK127) hg (Kd.R_ne HO_13.out BK127.out (by decide))); have n4_ := Aside0.mk (blk_grown (g := gb128) (o := .cells #[.int .i64 0, .int .i64 0, .slice none 0 0] 24 (0, 0)) (bkx BK128) hg (Kd.R_ne HO_13.out BK128.out (by decide))); have n5_ := Aside0.mk (blk_grown (g := gb149) (o := .cells #[.int .i64 a0_0, .int .i64 a0_1, u150002] 24 (0, 0)) (bkx BK149) hg (Kd.R_ne HO_13.out BK149.out (by decide))); have n6_ := Aside0.mk ((by rw [hw]; exact below_set (HB.out) GB89.out : Below w.heap.size w w95)); clear HO_7; clear HO_13; clear HO_150002; clear BK127; clear BK128; clear BK149; clear HB; have HO_7 := n0_; have HO_13 := n1_; have HO_150002 := n2_; have BK127 := n3_; have BK128 := n4_; have BK149 := n5_; have HB := n6_; clear n0_ n1_ n2_ n3_ n4_ n5_ n6_; clear hg hw hp_))
                       (try simp only [← hl13_3])
                       go_roundg k3
                       case measure => have := HK1.out; have := HK2.out; have := HK3.out; omega
                       case rel => exact ⟨(y154), (wrap64 (x95_3 + 1)), (by first | rfl | (simp; done) | (simp [*]; done)), H', ⟨by have := HK1.out; have := HK2.out; have := HK3.out; omega⟩, ⟨by (try simp only [hl13_3]); refine rkt ?_; exact Kd.R_mono HO_7.out (fun _ hk => hk.2)⟩, ⟨by (try simp only [hl13_3]); refine rkt ?_; exact HO_13.out⟩, ⟨by (try simp only [hl13_3]); refine rkt ?_; exact HO_150002.out⟩, ⟨by (try simp only [hl13_3]); refine bkt ?_; exact BK127.out⟩, ⟨by (try simp only [hl13_3]); refine bkt ?_; exact BK128.out⟩, ⟨by (try simp only [hl13_3]); refine bkt ?_; exact BK149.out⟩, ⟨hb3 HB GE127 GE128 GE149⟩⟩
                      ·rw [if_neg c88] at H
                       exact absurd H (by simp)
                     ·rw [if_neg c87] at H
                      exact absurd H (by simp)
                    ·rw [if_neg c86] at H
                     exact absurd H (by simp)
                   ·rw [if_neg c85] at H
                    exact absurd H (by simp)
                  ·rw [if_neg c83] at H
                   have c83b0 : decide (x95_3 < (y150.length : Int)) = false := decide_eq_false c83
                   (try simp only [hl13_3] at c83b0)
                   clear c83
                   replace H := Option.bind_eq_some_iff.mp H
                   obtain ⟨t155, A960, H⟩ := H
                   replace H : (printing_Blur.l4 k3 a1 (wrap64 ((wrap64 (2 * a1)) + 1)) x7_2 x87_2 a0_0 x87_2 t155 (t155.length : Int) 0 a0_0 a0_1 l0_2 a0_0 a0_1 x150002_2) = some (r1, r2, r3, r4) := H
                   have A96 := Aside0.mk A960
                   clear A960
                   have H' := Aside0.mk H
                   clear H
                   go_wp2_with (first | ((with_reducible refine gate_callee (f := 31) rfl ?_); refine goesL_ (some 115) rfl rfl Try.func31 (by kernel_rfl) rfl #[.slice Ao82 x13_3.length co82, .int .i64 a1, .int .i64 (wrap64 (255 * (wrap64 ((wrap64 (2 * a1)) + 1))))] rfl mapx ?_; (with_reducible refine (printing_window.calls k3 _ _ x13_3 a1 (wrap64 (255 * (wrap64 ((wrap64 (2 * a1)) + 1)))) t155 _ ?side1 ?side2 A96.out).mono ?_); (case side1 => repeat (first | exact (Kd.R_reads' HO_13.out).2.2 | (with_reducible refine Kd.C_alloc ?_ _) | (with_reducible refine Kd.C_drewN ?_ _) | (with_reducible refine Kd.C_drew ?_))); (case side2 => exact (Kd.R_reads' HO_13.out).2.1); rintro e w97 ⟨v156, rfl, ho0, hb⟩; refine ⟨_, rfl, ?_⟩; have n0_ := Aside0.mk (Kd.R_elder' (rkx HO_7) (Kd.R_base ho0) hb); have n1_ := Aside0.mk (Kd.R_elder' (rkx HO_13) (Kd.R_base ho0) hb); have n2_ := Aside0.mk (Kd.R_below (rkx HO_150002) hb); have n3_ := Aside0.mk (Kd.R_lower (Kd.R_new' (Kd.R_new' ho0 (Kd.R_lt (rkx HO_7))) (Kd.R_lt (rkx HO_13))) (below_size (hb3 HB GE127 GE128 GE149))); have n4_ := Aside0.mk (blk_below (bkx BK127) hb); have n5_ := Aside0.mk (blk_below (bkx BK128) hb); have n6_ := Aside0.mk (blk_below (bkx BK149) hb); have n7_ := Aside0.mk (below_step (hb3 HB GE127 GE128 GE149) hb); clear HO_7; clear HO_13; clear HO_150002; clear BK127; clear BK128; clear BK149; clear HB; have HO_7 := n0_; have HO_13 := n1_; have HO_150002 := n2_; have HO157 := n3_; have BK127 := n4_; have BK128 := n5_; have BK149 := n6_; have HB := n7_; clear n0_ n1_ n2_ n3_ n4_ n5_ n6_ n7_; (try clear hb); (try clear hb2); (try clear hk); (try clear hi); (try clear ho0); obtain ⟨Ao98, co98, eo98⟩ := Kd.R_slice HO157.out; subst eo98))
                   go_loopg [117] k3 (fun kq v117 w' => ∃ (x117_4 : Int) (x150002_4 : List Int) (u150002 : Value), v117 = .int .i64 x117_4 ∧ Aside0 (printing_Blur.l4 kq a1 (wrap64 ((wrap64 (2 * a1)) + 1)) x7_2 x87_2 a0_0 x87_2 t155 (t155.length : Int) x117_4 a0_0 a0_1 l0_2 a0_0 a0_1 x150002_4 = some (r1, r2, r3, r4)) ∧ Aside0 (kq ≤ k3) ∧ Aside0 (Kd.R (Kd.int .i64) 3 w' w.heap.size (fun k_ => some k_ ≠ ((.slice Ao98 t155.length co98) : Value).ownBlock) v131 x7_2) ∧ Aside0 (Kd.R (Kd.int .i64) 3 w' w.heap.size (fun k_ => some k_ ≠ (v131 : Value).ownBlock) (.slice Ao98 t155.length co98) t155) ∧ Aside0 (Kd.R (Kd.int .u8) 5 w' w.heap.size (fun _ => True) u150002 x150002_4) ∧ Aside0 (w'.heap[gb127]? = some (.cells #[.int .i64 a0_0, .int .i64 a0_1, (.slice A0_2 l0_2.length c0_2)] 24 (0, 0))) ∧ Aside0 (w'.heap[gb128]? = some (.cells #[.int .i64 0, .int .i64 0, (.slice none 0 0)] 24 (0, 0))) ∧ Aside0 (w'.heap[gb149]? = some (.cells #[.int .i64 a0_0, .int .i64 a0_1, u150002] 24 (0, 0))) ∧ Aside0 (Below w.heap.size w w'))
                   case atStart => exact ⟨(0), (x150002_2), (u150002), (by first | rfl | (simp; done) | (simp [*]; done)), H', ⟨Nat.le_refl _⟩, ⟨by (try simp only [hl13_3]); refine rkt ?_; exact Kd.R_mono HO_7.out (fun _ hk => hk.2)⟩, ⟨by (try simp only [hl13_3]); refine rkt ?_; exact Kd.R_mono HO157.out (fun _ hk => hk.1.2)⟩, ⟨by (try simp only [hl13_3]); refine rkt ?_; exact HO_150002.out⟩, ⟨by (try simp only [hl13_3]); refine bkt ?_; exact BK127.out⟩, ⟨by (try simp only [hl13_3]); refine bkt ?_; exact BK128.out⟩, ⟨by (try simp only [hl13_3]); refine bkt ?_; exact BK149.out⟩, ⟨hb3 HB GE127 GE128 GE149⟩⟩
                   case round =>
                    clear H'
                    (try clear c1); (try clear p1); (try clear q1); (try clear hx1); (try clear p2); (try clear c3); (try clear c4); (try clear p4); (try clear q4); (try clear hx4); (try clear hf4); (try clear c5); (try clear q5); (try clear c6); (try clear p6); (try clear c7); (try clear c8); (try clear p8); (try clear q8); (try clear hx8); (try clear hf8); (try clear c9); (try clear p13); (try clear q13); (try clear hx13); (try clear p15); (try clear q15); (try clear hx15); (try clear c30); (try clear c30b0); (try clear c31); (try clear c32); (try clear c38); (try clear c38b0); (try clear c40); (try clear c41); (try clear c42); (try clear c43); (try clear p44); (try clear q44); (try clear hx44); (try clear hf44); (try clear c50); (try clear c50b0); (try clear c50b1); (try clear c51); (try clear c51b0); (try clear c51b1); (try clear c54); (try clear q54); (try clear c59); (try clear c59b0); (try clear c59b1); (try clear c60); (try clear c60b0); (try clear c60b1); (try clear p64); (try clear c71); (try clear c72); (try clear c74); (try clear c74b0); (try clear c75); (try clear c75b0); (try clear c75b1); (try clear c76); (try clear c76b0); (try clear c76b1); (try clear c77); (try clear c78); (try clear c83); (try clear c83b0); (try clear c85); (try clear c85b0); (try clear c86); (try clear c86b0); (try clear c87); (try clear c87b0); (try clear c88); (try clear c88b0); (try clear p89); (try clear q89); (try clear hx89); (try clear hf89); (try clear c90); (try clear c91); (try clear hcz46_1); (try clear hcz46_2); (try clear hcz73_0); (try clear hcz73_1); (try clear hcz73_2); (try clear hcz79_0); (try clear hcz79_1); (try clear hcz79_2); (try clear hcz92_0); (try clear hcz92_1); (try clear hcz92_2); (try clear hfz46_0); (try clear hfz46_1); (try clear hfz46_2); (try clear hfz73_0); (try clear hfz73_1); (try clear hfz73_2); (try clear hfz79_0); (try clear hfz79_1); (try clear hfz79_2); (try clear hfz92_0); (try clear hfz92_1); (try clear hfz92_2); (try clear hx136_0); (try clear hx153_0); (try clear hx44_0); (try clear hx89_0); (try clear p1); (try clear p13); (try clear p136); (try clear p153); (try clear p2); (try clear p4); (try clear p44); (try clear p6); (try clear p64); (try clear p89); (try clear q054); (try clear q1); (try clear q13); (try clear q136); (try clear q153); (try clear q4); (try clear q44); (try clear q5); (try clear q54); (try clear q89)
                    obtain ⟨x117_4, x150002_4, u150002, rfl, HA, HK4, HO_7, HO_115, HO_150002, BK127, BK128, BK149, HB⟩ := hrel
                    cases gk with
                    | zero => exact absurd HA.out (by simp [printing_Blur.l4])
                    | succ k4 =>
                     have H := HA.out
                     clear HA
                     simp only [printing_Blur.l4] at H
                     by_cases c99 : x117_4 < (t155.length : Int)
                     ·rw [if_pos c99] at H
                      have c99b0 : decide (x117_4 < (t155.length : Int)) = true := decide_eq_true c99
                      clear c99
                      by_cases c100 : 0 ≤ x117_4
                      ·rw [if_pos c100] at H
                       have c100b0 : decide (0 ≤ x117_4) = true := decide_eq_true c100
                       clear c100
                       by_cases c101 : x117_4 < (t155.length : Int)
                       ·rw [if_pos c101] at H
                        have c101b0 : decide (x117_4 < (t155.length : Int)) = true := decide_eq_true c101
                        clear c101
                        by_cases c102 : (wrap64 ((wrap64 (2 * (wrap64 ((wrap64 (2 * a1)) + 1)))) * (wrap64 ((wrap64 (2 * a1)) + 1)))) = 0
                        ·rw [if_pos c102] at H
                         exact absurd H (by simp)
                        ·rw [if_neg c102] at H
                         have c102b0 : ((wrap64 ((wrap64 (2 * (wrap64 ((wrap64 (2 * a1)) + 1)))) * (wrap64 ((wrap64 (2 * a1)) + 1)))) == 0) = false := beq_eq_false_iff_ne.mpr c102
                         have c102b1 : ((wrap64 ((wrap64 (2 * (wrap64 ((wrap64 (2 * a1)) + 1)))) * (wrap64 ((wrap64 (2 * a1)) + 1)))) != 0) = true := bne_iff_ne.mpr c102
                         obtain ⟨ji103, hji103⟩ : ∃ j_ : Int, (wrap64 ((wrap64 (x117_4 * a0_0)) + x87_2)) = j_ := ⟨_, rfl⟩
                         replace H : (if 0 ≤ (ji103) then (if (ji103) < (x150002_4.length : Int) then (printing_Blur.l4 k4 a1 (wrap64 ((wrap64 (2 * a1)) + 1)) x7_2 x87_2 a0_0 x87_2 t155 (t155.length : Int) (wrap64 (x117_4 + 1)) a0_0 a0_1 l0_2 a0_0 a0_1 (x150002_4.set ((ji103) : Int).toNat ((wrap64 (Int.tdiv (wrap64 ((wrap64 (2 * (rd t155 x117_4))) + (wrap64 ((wrap64 ((wrap64 (2 * a1)) + 1)) * (wrap64 ((wrap64 (2 * a1)) + 1)))))) (wrap64 ((wrap64 (2 * (wrap64 ((wrap64 (2 * a1)) + 1)))) * (wrap64 ((wrap64 (2 * a1)) + 1)))))) % 256))) else (none)) else (none)) = some (r1, r2, r3, r4) := by first | (rw [hji103] at H; exact H) | (simp only [hji103] at H ⊢; exact H)
                         have hji103w : (IntKind.i64.wrap ((wrap64 (x117_4 * a0_0)) + x87_2)) = ji103 := (i64_w _).trans hji103
                         by_cases c104 : 0 ≤ (ji103)
                         ·rw [if_pos c104] at H
                          have c104b0 : decide (0 ≤ (ji103)) = true := decide_eq_true c104
                          clear c104
                          by_cases c105 : (ji103) < (x150002_4.length : Int)
                          ·rw [if_pos c105] at H
                           have c105b0 : decide ((ji103) < (x150002_4.length : Int)) = true := decide_eq_true c105
                           clear c105
                           obtain ⟨y159, hy159⟩ : ∃ y_ : List Int, y_ = (x150002_4.set ((ji103) : Int).toNat ((wrap64 (Int.tdiv (wrap64 ((wrap64 (2 * (rd t155 x117_4))) + (wrap64 ((wrap64 ((wrap64 (2 * a1)) + 1)) * (wrap64 ((wrap64 (2 * a1)) + 1)))))) (wrap64 ((wrap64 (2 * (wrap64 ((wrap64 (2 * a1)) + 1)))) * (wrap64 ((wrap64 (2 * a1)) + 1)))))) % 256)) := ⟨_, rfl⟩
                           replace H : (printing_Blur.l4 k4 a1 (wrap64 ((wrap64 (2 * a1)) + 1)) x7_2 x87_2 a0_0 x87_2 t155 (t155.length : Int) (wrap64 (x117_4 + 1)) a0_0 a0_1 l0_2 a0_0 a0_1 y159) = some (r1, r2, r3, r4) := by first | (rw [hy159]; with_reducible exact H) | (have H2_ := (Option.bind_some _ _).symm.trans H; rw [hy159]; with_reducible exact H2_) | (have H2_ := (Option.bind_some _ _).symm.trans H; with_reducible exact H2_) | with_reducible exact H | (rw [hy159]; exact H) | exact H
                           have Ny159 := Aside0.mk hy159
                           clear hy159
                           have H' := Aside0.mk H
                           clear H
                           have p158 : 0 ≤ (x117_4 : Int) := of_decide_eq_true (by first | (with_reducible assumption) | assumption)
                           have q158 : x117_4 < (t155.length : Int) := of_decide_eq_true (by first | (with_reducible assumption) | assumption)
                           obtain ⟨ad158, e158, hx158_0⟩ := Kd.at_int (Kd.R_reads' HO_115.out).2.2 x117_4 p158 q158
                           cases e158
                           replace p158 := eq_true p158
                           replace q158 := eq_true q158
                           try go_wp2
                           have n0_ := Aside0.mk (Kd.R_drew HO_7.out)
                           have n1_ := Aside0.mk (Kd.R_drew HO_115.out)
                           have n2_ := Aside0.mk (Kd.R_drew HO_150002.out)
                           have n3_ := Aside0.mk (blk_drew BK127.out)
                           have n4_ := Aside0.mk (blk_drew BK128.out)
                           have n5_ := Aside0.mk (blk_drew BK149.out)
                           have n6_ := Aside0.mk (below_drew1 HB.out)
                           clear HO_7
                           clear HO_115
                           clear HO_150002
                           clear BK127
                           clear BK128
                           clear BK149
                           clear HB
                           have HO_7 := n0_
                           have HO_115 := n1_
                           have HO_150002 := n2_
                           have BK127 := n3_
                           have BK128 := n4_
                           have BK149 := n5_
                           have HB := n6_
                           clear n0_ n1_ n2_ n3_ n4_ n5_ n6_
                           have p106 : 0 ≤ ((ji103) : Int) := of_decide_eq_true (by first | (with_reducible assumption) | assumption)
                           have q106 : ((ji103) : Int) < ((x150002_4.length : Int) : Int) := of_decide_eq_true (by first | (with_reducible assumption) | assumption)
                           obtain ⟨go106, co106, eo106, gb106, gl106, cl106, HG106⟩ := Kd.R_form HO_150002.out (by omega)
                           (first | cases eo106 | (injection eo106 with ea_ en_ ec_; (first | subst ea_ | (injection ea_ with ea_; subst ea_)); subst ec_; clear en_))
                           have GB106 := Aside0.mk gb106
                           have GG106 := Aside0.mk HG106
                           clear gb106 gl106 HG106
                           obtain ⟨hx106_0, hf106_0⟩ := Kd.R_celln 0 HO_150002.out ((ji103) : Int) p106 q106
                           replace p106 := eq_true p106
                           replace q106 := eq_true q106
                           have HP108 := Kd.R_putn HO_150002.out ((ji103) : Int) ((wrap64 (Int.tdiv (wrap64 ((wrap64 (2 * (rd t155 x117_4))) + (wrap64 ((wrap64 ((wrap64 (2 * a1)) + 1)) * (wrap64 ((wrap64 (2 * a1)) + 1)))))) (wrap64 ((wrap64 (2 * (wrap64 ((wrap64 (2 * a1)) + 1)))) * (wrap64 ((wrap64 (2 * a1)) + 1)))))) % 256)
                           rw [← Ny159.out] at HP108
                           have HQ108 := Aside0.mk HP108
                           clear HP108
                           refine start_ (n := 22) (S := fun w' => w'.cell? ⟨gb149, 0, none⟩ = some (.int .i64 a0_0) ∧ w'.cell? ⟨gb149, 1, none⟩ = some (.int .i64 a0_1) ∧ w'.cell? ⟨gb149, 2, none⟩ = some (.slice (some ⟨go106, 0, none⟩) x150002_4.length co106) ∧ w'.cell? ⟨gb127, 0, none⟩ = some (.int .i64 a0_0) ∧ w'.cell? ⟨gb127, 1, none⟩ = some (.int .i64 a0_1) ∧ w'.cell? ⟨gb127, 2, none⟩ = some (.slice A0_2 l0_2.length c0_2)) (ds := [21]) (bA 22 0) (by kernel_rfl) rfl rfl ⟨(blk_cell BK149.out 0).trans rfl, (blk_cell BK149.out 1).trans rfl, (blk_cell BK149.out 2).trans rfl, (blk_cell BK127.out 0).trans rfl, (blk_cell BK127.out 1).trans rfl, (blk_cell BK127.out 2).trans rfl⟩ (fun hHeld => ?_); refine with_tabW printing_Blur.tab31 printing_Blur.bits31 (fun HT_ HW_ => ?_)
                           generalize wr.drew = w107 at HO_7 HO_115 HO_150002 BK127 BK128 BK149 HB GG106 HQ108 hf106_0 hx106_0 hHeld ⊢
                           refine pt HT_ 0 122 ?_
                           refine pt HT_ 2 124 ?_
                           refine pt HT_ 3 125 ?_
                           refine pt HT_ 6 128 ?_
                           refine pt HT_ 8 130 ?_
                           refine pt HT_ 9 131 ?_
                           refine pt HT_ 10 132 ?_
                           refine pt HT_ 11 133 ?_
                           refine pt HT_ 12 134 ?_
                           refine pt HT_ 13 135 ?_
                           refine pt HT_ 14 136 ?_
                           refine pt HT_ 15 137 ?_
                           refine pt HT_ 16 138 ?_
                           refine pt HT_ 17 139 ?_
                           refine pt HT_ 18 140 ?_
                           refine pt HT_ 19 141 ?_
                           refine tk HT_ HW_ hHeld 1 123 ?_
                           refine tk HT_ HW_ hHeld 4 126 ?_
                           refine pt HT_ 5 127 ?_
                           refine pt HT_ 7 129 ?_
                           refine pt HT_ 20 142 ?_
                           refine last_ (i := 21) (N := none) (bA 22 4194303) rfl rfl (one_of HT_.out (by kernel_rfl)) (by decide) (fun K hK => ?_)
                           refine skip_ (w1 := ?_) (by rfl) rfl ?_ ?_
                           rotate_left
                           ·go_simp
                            rfl
                           refine hK.out _ _ ?_
                           clear hK K
                           refine done_ (done_of HT_.out (by kernel_rfl)) ?_
                           try go_wp2
                           go_roundg k4
                           case measure => have := HK1.out; have := HK2.out; have := HK3.out; have := HK4.out; omega
                           case rel => exact ⟨(wrap64 (x117_4 + 1)), (y159), (.slice (some ⟨go106, 0, none⟩) x150002_4.length co106), (by first | rfl | (simp; done) | (simp [*]; done)), H', ⟨by have := HK1.out; have := HK2.out; have := HK3.out; have := HK4.out; omega⟩, ⟨by (try simp only [hl13_3]); refine rkt ?_; exact Kd.R_mono (Kd.R_far (p := ⟨go106, ((ji103) : Int).toNat, none⟩) (Kd.R_types HO_7.out GG106.out (by decide)) (fun _ hk => hk.2) (.int .u8 ((wrap64 (Int.tdiv (wrap64 ((wrap64 (2 * (rd t155 x117_4))) + (wrap64 ((wrap64 ((wrap64 (2 * a1)) + 1)) * (wrap64 ((wrap64 (2 * a1)) + 1)))))) (wrap64 ((wrap64 (2 * (wrap64 ((wrap64 (2 * a1)) + 1)))) * (wrap64 ((wrap64 (2 * a1)) + 1)))))) % 256))) (fun _ hk => hk.1)⟩, ⟨by (try simp only [hl13_3]); refine rkt ?_; exact Kd.R_mono (Kd.R_far (p := ⟨go106, ((ji103) : Int).toNat, none⟩) (Kd.R_types HO_115.out GG106.out (by decide)) (fun _ hk => hk.2) (.int .u8 ((wrap64 (Int.tdiv (wrap64 ((wrap64 (2 * (rd t155 x117_4))) + (wrap64 ((wrap64 ((wrap64 (2 * a1)) + 1)) * (wrap64 ((wrap64 (2 * a1)) + 1)))))) (wrap64 ((wrap64 (2 * (wrap64 ((wrap64 (2 * a1)) + 1)))) * (wrap64 ((wrap64 (2 * a1)) + 1)))))) % 256))) (fun _ hk => hk.1)⟩, ⟨by (try simp only [hl13_3]); refine rkt ?_; exact HQ108.out⟩, ⟨by (try simp only [hl13_3]); refine bkt ?_; refine blk_far ?_ (by have h_ := Kd.R_ne HO_150002.out BK127.out (by decide); intro e_; exact h_ (by rw [e_]; rfl)) _; refine bkt ?_; exact BK127.out⟩, ⟨by (try simp only [hl13_3]); refine bkt ?_; refine blk_far ?_ (by have h_ := Kd.R_ne HO_150002.out BK128.out (by decide); intro e_; exact h_ (by rw [e_]; rfl)) _; refine bkt ?_; exact BK128.out⟩, ⟨by (try simp only [hl13_3]); refine bkt ?_; refine blk_far ?_ (by have h_ := Kd.R_ne HO_150002.out BK149.out (by decide); intro e_; exact h_ (by rw [e_]; rfl)) _; refine bkt ?_; exact BK149.out⟩, ⟨hb4 HB GB106 GE127 GE128 GE149⟩⟩
                          ·rw [if_neg c105] at H
                           exact absurd H (by simp)
                         ·rw [if_neg c104] at H
                          exact absurd H (by simp)
                       ·rw [if_neg c101] at H
                        exact absurd H (by simp)
                      ·rw [if_neg c100] at H
                       exact absurd H (by simp)
                     ·rw [if_neg c99] at H
                      have c99b0 : decide (x117_4 < (t155.length : Int)) = false := decide_eq_false c99
                      clear c99
                      have H' := Aside0.mk H
                      clear H
                      go_wp2
                      (try simp only [← hl13_3])
                      go_roundg k4
                      case measure => have := HK1.out; have := HK2.out; have := HK3.out; have := HK4.out; omega
                      case rel => exact ⟨(x7_2), (wrap64 (x87_2 + 1)), (x150002_4), (u150002), (by first | rfl | (simp; done) | (simp [*]; done)), H', ⟨by have := HK1.out; have := HK2.out; have := HK3.out; have := HK4.out; omega⟩, ⟨by (try simp only [hl13_3]); refine rkt ?_; exact Kd.R_mono HO_7.out (fun _ hk => trivial)⟩, ⟨by (try simp only [hl13_3]); refine rkt ?_; exact HO_150002.out⟩, ⟨by (try simp only [hl13_3]); refine bkt ?_; exact BK127.out⟩, ⟨by (try simp only [hl13_3]); refine bkt ?_; exact BK128.out⟩, ⟨by (try simp only [hl13_3]); refine bkt ?_; exact BK149.out⟩, ⟨hb3 HB GE127 GE128 GE149⟩⟩
               ·rw [if_neg c76] at H
                exact absurd H (by simp)
              ·rw [if_neg c75] at H
               exact absurd H (by simp)
             ·rw [if_neg c74] at H
              have c74b0 : decide (x87_2 < a0_0) = false := decide_eq_false c74
              clear c74
              simp only [Option.some.injEq, Prod.mk.injEq] at H
              obtain ⟨rfl, rfl, rfl, rfl⟩ := H
              have hnb109 := NB149_127.out
              have hnc109 := NB127_149.out
              have hnb110 := NB149_128.out
              have hnc110 := NB128_149.out
              have hcz111_0 : wr.cell? ⟨gb149, 0, none⟩ = some (.int .i64 a0_0) := (blk_cell BK149.out 0).trans rfl
              have hcz111_1 : wr.cell? ⟨gb149, 1, none⟩ = some (.int .i64 a0_1) := (blk_cell BK149.out 1).trans rfl
              have hcz111_2 : wr.cell? ⟨gb149, 2, none⟩ = some (u150002) := (blk_cell BK149.out 2).trans rfl
              have hfz111_0 := blk_frozen BK149.out 0
              have hfz111_1 := blk_frozen BK149.out 1
              have hfz111_2 := blk_frozen BK149.out 2
              have hnb112 := NB128_127.out
              have hnc112 := NB127_128.out
              have hcz113_0 : wr.cell? ⟨gb128, 0, none⟩ = some (.int .i64 0) := (blk_cell BK128.out 0).trans rfl
              have hcz113_1 : wr.cell? ⟨gb128, 1, none⟩ = some (.int .i64 0) := (blk_cell BK128.out 1).trans rfl
              have hcz113_2 : wr.cell? ⟨gb128, 2, none⟩ = some (.slice none 0 0) := (blk_cell BK128.out 2).trans rfl
              have hfz113_0 := blk_frozen BK128.out 0
              have hfz113_1 := blk_frozen BK128.out 1
              have hfz113_2 := blk_frozen BK128.out 2
              obtain ⟨Ao114, co114, eo114⟩ := Kd.R_slice HO_150002.out
              subst eo114
              go_wp2
              refine bodyPost_ret (results_ct rfl _ _ gb128 24 #[.int .i64 a0_0, .int .i64 a0_1, .slice Ao114 x150002_2.length co114] (0, 0) _ rfl (by refine bkt ?_; refine blk_put (cs := #[.int .i64 a0_0, .int .i64 a0_1, .slice none 0 0]) ?_ 2 _ rfl; refine bkt ?_; refine blk_put (cs := #[.int .i64 a0_0, .int .i64 0, .slice none 0 0]) ?_ 1 _ rfl; refine bkt ?_; refine blk_put (cs := #[.int .i64 0, .int .i64 0, .slice none 0 0]) ?_ 0 _ rfl; refine bkt ?_; exact BK128.out) Try.underlying24 rfl (by kernel_rfl)) rfl ?_
              exact ⟨_, by first | rfl | (simp [errW_none, errW_some] <;> rfl) | (simp [*, errW_none, errW_some] <;> rfl), by refine rkt ?_; exact Kd.R_mono (Kd.R_far (p := ⟨gb128, 2, none⟩) (Kd.R_far (p := ⟨gb128, 1, none⟩) (Kd.R_far (p := ⟨gb128, 0, none⟩) (Kd.R_types HO_150002.out BK128.out (by decide)) (fun _ hk => hk.2) (.int .i64 a0_0)) (fun _ hk => hk.2) (.int .i64 a0_1)) (fun _ hk => hk.2) (.slice Ao114 x150002_2.length co114)) (fun _ hk => trivial), by repeat (first | (with_reducible first | exact HB.out | apply below_alloc | apply pw_below_drewN | apply below_drew1 | refine below_set ?_ GE127.out | refine below_set ?_ GE128.out | refine below_set ?_ GE149.out) | exact HB.out)⟩
          ·rw [if_neg c60] at H
           exact absurd H (by simp)
         ·rw [if_neg c59] at H
          exact absurd H (by simp)
     ·rw [if_neg c20] at H
      exact absurd H (by simp)
    ·rw [if_neg c19] at H
     exact absurd H (by simp)
 ·rw [if_neg c4] at H
  have c4b0 : (t129 == 0) = false := beq_eq_false_iff_ne.mpr c4
  have c4b1 : (t129 != 0) = true := bne_iff_ne.mpr c4
  simp only [Option.some.injEq, Prod.mk.injEq] at H
  obtain ⟨rfl, rfl, rfl, rfl⟩ := H
  go_enter Try.func11, Try.ntmps11
  go_wp2_with (first | ((with_reducible refine gate_dst (N := 2) rfl ?_); refine box_event ?hg (N := 2) ?hd (cs := #[.int .i64 a0_0, .int .i64 a0_1, .slice A0_2 l0_2.length c0_2]) (t := 24) ?hr ?_; (case hd => rfl); (case hg => rfl); (case hr => first | (go_simp; done) | (go_simp; rfl)); intro gb127 hg w115 hbox hb; have n0_ := Aside0.mk (below_step (hb0 HB) hb); have n1_ := Aside0.mk (hbox); have n2_ := Aside0.mk ((by rw [hg]; exact (below_size (hb0 HB)) : w.heap.size ≤ gb127)); have n3_ := Aside0.mk ((by rw [hg]; exact (below_size (hb0 HB)) : w.heap.size ≤ gb127)); clear HB; have HB := n0_; have BK127 := n1_; have GW127 := n2_; have GE127 := n3_; clear n0_ n1_ n2_ n3_; clear hb hbox hg) | ((with_reducible refine gate_dst (N := 4) rfl ?_); refine box_event ?hg (N := 4) ?hd (cs := #[.int .i64 0, .int .i64 0, .slice none 0 0]) (t := 24) ?hr ?_; (case hd => rfl); (case hg => rfl); (case hr => first | (go_simp; done) | (go_simp; rfl)); intro gb128 hg w116 hbox hb; have n0_ := Aside0.mk (blk_below (bkx BK127) hb); have n1_ := Aside0.mk (below_step (hb1 HB GE127) hb); have n2_ := Aside0.mk (hbox); have n3_ := Aside0.mk ((by rw [hg]; exact (below_size (hb1 HB GE127)) : w.heap.size ≤ gb128)); have n4_ := Aside0.mk ((by rw [hg]; exact (below_size (hb1 HB GE127)) : w.heap.size ≤ gb128)); have n5_ := Aside0.mk (nel hg BK127 : gb127 ≠ gb128); have n6_ := Aside0.mk (neg hg BK127 : gb128 ≠ gb127); clear BK127; clear HB; have BK127 := n0_; have HB := n1_; have BK128 := n2_; have GW128 := n3_; have GE128 := n4_; have NB127_128 := n5_; have NB128_127 := n6_; clear n0_ n1_ n2_ n3_ n4_ n5_ n6_; clear hb hbox hg; have hnb117 := NB127_128.out; have hnc117 := NB128_127.out; have hcz118_0 : w116.cell? ⟨gb127, 0, none⟩ = some (.int .i64 a0_0) := (blk_cell BK127.out 0).trans rfl; have hcz118_1 : w116.cell? ⟨gb127, 1, none⟩ = some (.int .i64 a0_1) := (blk_cell BK127.out 1).trans rfl; have hcz118_2 : w116.cell? ⟨gb127, 2, none⟩ = some (.slice A0_2 l0_2.length c0_2) := (blk_cell BK127.out 2).trans rfl; have hfz118_0 := blk_frozen BK127.out 0; have hfz118_1 := blk_frozen BK127.out 1; have hfz118_2 := blk_frozen BK127.out 2) | ((with_reducible refine gate_callee (f := 30) rfl ?_); refine goesL_ (some 19) rfl rfl Try.func30 (by kernel_rfl) rfl #[.agg #[.int .i64 a0_0, .int .i64 a0_1, .slice A0_2 l0_2.length c0_2]] rfl mapx ?_; (with_reducible refine (raster_CheckImage.calls a0_0 a0_1 _ _ l0_2 t129 _ ?side1 ?side2 A3.out).mono ?_); (case side1 => repeat (first | exact (Kd.C_below HR0_2.out HB.out) | (with_reducible refine Kd.C_alloc ?_ _) | (with_reducible refine Kd.C_drewN ?_ _) | (with_reducible refine Kd.C_drew ?_))); (case side2 => exact HC0_2.out); rintro e w119 ⟨rfl, hb⟩; refine ⟨_, rfl, ?_⟩; have n0_ := Aside0.mk (blk_below (bkx BK127) hb); have n1_ := Aside0.mk (blk_below (bkx BK128) hb); have n2_ := Aside0.mk (below_step (hb2 HB GE127 GE128) hb); clear BK127; clear BK128; clear HB; have BK127 := n0_; have BK128 := n1_; have HB := n2_; clear n0_ n1_ n2_; (try clear hb); (try clear hb2); (try clear hk); (try clear hi); have hcz120_0 : w119.cell? ⟨gb128, 0, none⟩ = some (.int .i64 0) := (blk_cell BK128.out 0).trans rfl; have hcz120_1 : w119.cell? ⟨gb128, 1, none⟩ = some (.int .i64 0) := (blk_cell BK128.out 1).trans rfl; have hcz120_2 : w119.cell? ⟨gb128, 2, none⟩ = some (.slice none 0 0) := (blk_cell BK128.out 2).trans rfl; have hfz120_0 := blk_frozen BK128.out 0; have hfz120_1 := blk_frozen BK128.out 1; have hfz120_2 := blk_frozen BK128.out 2))
  refine bodyPost_ret (results_ct rfl _ _ gb128 24 #[.int .i64 0, .int .i64 0, .slice none 0 0] (0, 0) _ rfl (by refine bkt ?_; refine blk_put (cs := #[.int .i64 0, .int .i64 0, .slice none 0 0]) ?_ 2 _ rfl; refine bkt ?_; refine blk_put (cs := #[.int .i64 0, .int .i64 0, .slice none 0 0]) ?_ 1 _ rfl; refine bkt ?_; refine blk_put (cs := #[.int .i64 0, .int .i64 0, .slice none 0 0]) ?_ 0 _ rfl; refine bkt ?_; exact BK128.out) Try.underlying24 rfl (by kernel_rfl)) rfl ?_
  exact ⟨_, by first | rfl | (simp [errW_none, errW_some] <;> rfl) | (simp [*, errW_none, errW_some] <;> rfl), by first | exact Kd.R_nil _ _ _ _ _ | exact Kd.N_nil _ _ _ _ _ | exact Kd.V_nil _ _ _ _ _ | exact Kd.Q_nil _ _ _ _ _ | exact Kd.S_nil _ _ _ _ _, by repeat (first | (with_reducible first | exact HB.out | apply below_alloc | apply pw_below_drewN | apply below_drew1 | refine below_set ?_ GE127.out | refine below_set ?_ GE128.out) | exact HB.out)⟩

end Go.Proofs.Ytbipbbckfmilfaa.PR
